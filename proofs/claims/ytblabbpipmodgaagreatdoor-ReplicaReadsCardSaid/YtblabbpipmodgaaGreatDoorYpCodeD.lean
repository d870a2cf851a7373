import Derived.Test.YtblabbpipmodgaaGreatDoorYpCodeA
set_option linter.all false
set_option maxRecDepth 100000
namespace Go.Proofs.YtblabbpipmodgaaGreatDoor
open Go.aw
variable {a i n q s u x y z A B C D E F G H I J K:Int} {b j o:Option Addr} {c k p r t v:Nat} {d:Bool} {e:FuncId} {f l:Array Value} {g m:ByteArray} {h:Option Nat}
variable {w:World} {R:Ending->World->Prop}
def xZ:Wk N1_ Tryz.f163 163 rfl rfl #[.agg #[.ii a,.ii i,.ii n,.slice b c k,.ii q,.ii s,.ii u,.ii x,.ii y,.ii z,.bool d,.ii A,.ii B],.pointer (some ⟨p,r,none⟩),.pointer (some ⟨t,v,none⟩)] w R:=wk Tryz.func163
def x_:Wk N1_ Tryz.f164 164 rfl rfl #[.agg #[.ii a,.ii i,.ii n,.slice b c k,.ii q,.ii s,.ii u,.ii x,.ii y,.ii z,.bool d,.ii A,.ii B]] w R:=wk Tryz.func164
def zI:Wk N1_ Tryz.f166 166 rfl rfl #[.ii a,.pointer (some ⟨c,k,none⟩),.pointer (some ⟨p,r,none⟩)] w R:=wk Tryz.func166
def fG:Wk ⟨⟨[(2,[(8,.int .i64 0)])],[],[],[],[]⟩,true,[]⟩ Tryz.f179 179 rfl rfl #[.slice b c k,.func (.func e) f l] w R:=wk Tryz.func179
def rY:Wk ⟨⟨[(3,[(21,.int .i64 0)])],[(2,[(5,.pointer (some ⟨0,0,none⟩))])],[1,5],[5],[(1,⟨[0,1,2,4,0,16,32,64,136,256,0,2047],[4095,4094,4093,4091,4095,4079,4063,4031,3959,3839,4095,2559],[0,0,0,1,0,0,0,1,2,0,2,2]⟩)]⟩,true,[]⟩ Tryz.f180 180 rfl rfl #[.pointer b,.agg #[.pointer j,.slice o c k]] w R:=wk Tryz.func180
def tT:Wk N0_ Tryz.f176 176 rfl rfl #[.pointer b] w R:=wk Tryz.func176
def vI:Wk ⟨⟨[(6,[(6,.int .i64 0)])],[],[],[],[]⟩,false,[]⟩ Tryz.f177 177 rfl rfl #[.string g] w R:=wk Tryz.func177
def kQ:Wk N0_ Tryz.f181 181 rfl rfl #[.pointer b,.string g] w R:=wk Tryz.func181
def GD:Wk ⟨⟨[],[],[4],[],[(4,⟨[0,1,2,4,0,0,32,80,128,264,0,1024,2048,1023,16383,32767],[65535,65534,65533,65531,65535,65535,65503,65455,65407,65271,65535,64511,63487,65023,61439,65535],[0,0,1,0,0,0,0,0,2,0,0,0,0,2,0,0]⟩)]⟩,false,[]⟩ Tryz.f182 182 rfl rfl #[.slice b c k] w R:=wk Tryz.func182
def GF:Wk N0_ Tryz.f183 183 rfl rfl #[.slice b c k] w R:=wk Tryz.func183
def qW:Wk N0_ Tryz.f184 184 rfl rfl #[.pointer b,.ii a] w R:=wk Tryz.func184
def tU:Wk N0_ Tryz.f185 185 rfl rfl #[.pointer b] w R:=wk Tryz.func185
def sG:Wk N0_ Tryz.f186 186 rfl rfl #[.pointer b] w R:=wk Tryz.func186
def vJ:Wk N0_ Tryz.f188 188 rfl rfl #[.pointer b,.string g,.ii a] w R:=wk Tryz.func188
def qX:Wk N0_ Tryz.f169 169 rfl rfl #[.pointer b,.string g] w R:=wk Tryz.func169
def vK:Wk N0_ Tryz.f191 191 rfl rfl #[.pointer b] w R:=wk Tryz.func191
def sH:Wk N0_ Tryz.f192 192 rfl rfl #[.pointer (some ⟨c,k,none⟩)] w R:=wk Tryz.func192
def sI:Wk N0_ Tryz.f193 193 rfl rfl #[.pointer (some ⟨c,k,none⟩)] w R:=wk Tryz.func193
def sJ:Wk ⟨⟨[],[],[1],[],[]⟩,false,[]⟩ Tryz.f194 194 rfl rfl #[.pointer (some ⟨c,k,none⟩),.pointer (some ⟨p,r,none⟩)] w R:=wk Tryz.func194
def vL:Wk ⟨⟨[(3,[(3,.slice none 0 0),(15,.int .i64 0)])],[],[],[],[]⟩,false,[]⟩ Tryz.f195 195 rfl rfl #[.agg #[.slice b c k]] w R:=wk Tryz.func195
def sK:Wk N0_ Tryz.f196 196 rfl rfl #[.pointer (some ⟨c,k,none⟩)] w R:=wk Tryz.func196
def sL:Wk N0_ Tryz.f197 197 rfl rfl #[.pointer (some ⟨c,k,none⟩)] w R:=wk Tryz.func197
def qY:Wk N0_ Tryz.f198 198 rfl rfl #[.pointer b,.string g,.string m] w R:=wk Tryz.func198
def yb:Wk N1_ Tryz.f199 199 rfl rfl #[.ii a] w R:=wk Tryz.func199
def iL:Wk N1_ Tryz.f200 200 rfl rfl #[.slice b c k,.func (.func e) f l] w R:=wk Tryz.func200
def yd:Wk N1_ Tryz.f201 201 rfl rfl #[.pointer b,.agg #[.ii a,.ii i,.ii n,.slice j c k,.ii q,.ii s,.ii u,.ii x,.ii y,.ii z,.bool d,.ii A,.ii B],.ii C] w R:=wk Tryz.func201
def xA:Wk N1_ Tryz.f202 202 rfl rfl #[.agg #[.ii a,.ii i,.ii n,.slice b c k,.ii q,.ii s,.ii u,.ii x,.ii y,.ii z]] w R:=wk Tryz.func202
def qM:Wk ⟨⟨[],[],[1,5],[5],[(1,⟨[0,1,2,4,8,0,32,64,128,272,512,1024,3072,5120,9216,1024,50176,66560],[262143,262142,262141,262139,262135,262143,262111,262079,262015,261871,261631,261119,259071,257023,252927,261119,211967,195583],[0,0,0,1,0,0,0,0,1,0,0,0,0,0,1,2,2,0]⟩),(4,⟨[0,1,2,4,0,24,32,64,64,255,1023],[2047,2046,2045,2043,2047,2023,2015,1983,1983,1919,1791],[0,0,0,1,1,2,0,0,0,0,0]⟩),(5,⟨[0,0,2,4,8,0,0,64,176,511,1023,1535],[4095,4095,4093,4091,4087,4095,4095,4031,3919,4094,3583,2815],[0,0,0,0,1,0,1,2,2,0,0,2]⟩)]⟩,true,[44]⟩ Tryz.f159 159 rfl rfl #[.pointer b,.agg #[.ii a,.ii i,.ii n,.slice j c k,.ii q,.ii s,.ii u,.ii x,.ii y,.ii z]] w R:=wk Tryz.func159
def ie:Wk N1_ Tryz.f240 240 rfl rfl #[.map h] w R:=wk Tryz.func240
def lA:Wk N0_ Tryz.f174 174 rfl rfl #[.slice b c k] w R:=wk Tryz.func174
def ky:Wk N0_ Tryz.f178 178 rfl rfl #[.slice b c k,.ii a] w R:=wk Tryz.func178
def ye:Wk N0_ Tryz.f171 171 rfl rfl #[.pointer b,.string g,.func (.func e) f l] w R:=wk Tryz.func171
def oD:Wk N0_ Tryz.f172 172 rfl rfl #[.pointer b,.pointer (some ⟨c,k,none⟩),.pointer (some ⟨p,r,none⟩)] w R:=wk Tryz.func172
def EC:Wk ⟨⟨[(3,[(8,.int .i64 0)])],[],[],[],[]⟩,true,[]⟩ Tryz.f208 208 rfl rfl #[.slice b c k] w R:=wk Tryz.func208
def tV:Wk N1_ Tryz.f209 209 rfl rfl #[.ii a,.ii i] w R:=wk Tryz.func209
def vM:Wk ⟨⟨[],[(2,[(7,.bool false)])],[],[],[]⟩,true,[]⟩ Tryz.f203 203 rfl rfl #[.agg #[.ii a,.ii i,.bool d,.slice b c k],.agg #[.ii n,.ii q,.ii s,.slice j p r,.ii u,.ii x,.ii y,.ii z,.ii A,.ii B],.agg #[.ii C,.ii D,.ii E,.slice o t v,.ii F,.ii G,.ii H,.ii I,.ii J,.ii K]] w R:=wk Tryz.func203
def gG:Wk N1_ Tryz.f210 210 rfl rfl #[.slice b c k] w R:=wk Tryz.func210
def BD:Wk N1_ Tryz.f211 211 rfl rfl #[.agg #[.ii a,.ii i,.bool d,.slice b c k,.slice j p r,.ii n,.ii q]] w R:=wk Tryz.func211
def ze:Wk ⟨⟨[],[],[1],[],[(1,⟨[0,1,2,4,8,0,32,80,255,511,767],[2047,2046,2045,2043,2039,2047,2015,1967,2045,1791,1407],[1,2,0,0,1,0,1,0,0,0,2]⟩)]⟩,true,[]⟩ Tryz.f212 212 rfl rfl #[.agg #[.ii a,.ii i,.bool d,.slice b c k,.slice j p r,.ii n,.ii q]] w R:=wk Tryz.func212
def xD:Wk N1_ Tryz.f213 213 rfl rfl #[.agg #[.ii a,.ii i,.bool d,.slice b c k,.slice j p r,.ii n,.ii q]] w R:=wk Tryz.func213
def rA:Wk N1_ Tryz.f214 214 rfl rfl #[.agg #[.ii a,.ii i,.bool d,.slice b c k,.slice j p r,.ii n,.ii q]] w R:=wk Tryz.func214
def zf:Wk ⟨⟨[],[],[1],[],[]⟩,true,[]⟩ Tryz.f215 215 rfl rfl #[.agg #[.ii a,.ii i,.bool d,.slice b c k,.slice j p r,.ii n,.ii q]] w R:=wk Tryz.func215
def BE:Wk ⟨⟨[],[],[1],[],[(1,⟨[0,1,2,4,8,0,32,82,128,256,256,1023,4095],[8191,8190,8189,8187,8183,8191,8159,8111,8063,7935,7935,7679,7167],[1,2,0,0,1,0,1,2,0,0,0,0,0]⟩)]⟩,true,[]⟩ Tryz.f216 216 rfl rfl #[.agg #[.ii a,.ii i,.bool d,.slice b c k,.slice j p r,.ii n,.ii q]] w R:=wk Tryz.func216
def IW:Wk ⟨⟨[],[],[4],[4],[(2,⟨[0,1,2,4,0,16,40,64,128,128,511,2047],[4095,4094,4093,4091,4095,4079,4055,4031,3967,3967,3839,3583],[0,0,0,1,0,1,2,0,0,0,0,0]⟩),(4,⟨[0,0,2,4,8,0,0,64,128,304,1023,2047,3071],[8191,8191,8189,8187,8183,8191,8191,8127,8063,7887,8190,7167,5631],[0,0,0,0,1,0,0,1,2,2,0,0,2]⟩)]⟩,true,[]⟩ Tryz.f217 217 rfl rfl #[.agg #[.ii a,.ii i,.bool d,.slice b c k,.slice j p r,.ii n,.ii q]] w R:=wk Tryz.func217
def BF:Wk ⟨⟨[],[],[],[],[(2,⟨[0,1,2,4,0,16,40,64,128,128,511,2047],[4095,4094,4093,4091,4095,4079,4055,4031,3967,3967,3839,3583],[0,0,0,1,0,1,2,0,0,0,0,0]⟩)]⟩,true,[]⟩ Tryz.f218 218 rfl rfl #[.agg #[.ii a,.ii i,.bool d,.slice b c k,.slice j p r,.ii n,.ii q]] w R:=wk Tryz.func218
def za:Wk ⟨⟨[],[],[2],[],[(2,⟨[0,1,2,4,8,0,32,80,130,256,768,1280,2304,4096,12288,4096,36864,86016,135168,266240,4096,1052672,2625536,4198656,8388864,33554431],[67108863,67108862,67108861,67108859,67108855,67108863,67108831,67108783,67108735,67108607,67108095,67107583,67106559,67104767,67096575,67104767,67071999,67022847,66973695,66842623,67104767,66056191,64483327,62910207,58719999,50331647],[1,2,0,0,1,0,1,0,0,0,1,0,0,0,1,0,1,0,0,1,0,1,0,0,0,0]⟩)]⟩,true,[]⟩ Tryz.f219 219 rfl rfl #[.agg #[.ii a,.ii i,.bool d,.slice b c k,.slice j p r,.ii n,.ii q]] w R:=wk Tryz.func219
def zh:Wk ⟨⟨[],[],[1],[],[(1,⟨[0,1,0,4,8,0,32,80,128,256,1023,2047,3071],[8191,8190,8191,8187,8183,8191,8159,8111,8063,7935,8189,7167,5631],[1,2,0,0,1,0,1,0,0,1,0,0,2]⟩)]⟩,true,[]⟩ Tryz.f220 220 rfl rfl #[.agg #[.ii a,.ii i,.bool d,.slice b c k,.slice j p r,.ii n,.ii q]] w R:=wk Tryz.func220
def GH:Wk N0_ Tryz.f221 221 rfl rfl #[.agg #[.ii a,.ii i,.ii n,.slice b c k,.ii q,.ii s,.ii u,.ii x,.ii y,.ii z]] w R:=wk Tryz.func221
def GI:Wk N0_ Tryz.f222 222 rfl rfl #[.agg #[.ii a,.slice b c k]] w R:=wk Tryz.func222
def oE:Wk ⟨⟨[],[],[1],[],[(3,⟨[0,0,2,4,8,0,48,127,255,383],[1023,1023,1021,1019,1015,1023,975,1022,895,703],[0,0,0,0,1,1,2,0,0,2]⟩)]⟩,false,[]⟩ Tryz.f223 223 rfl rfl #[.pointer b,.pointer (some ⟨c,k,none⟩),.pointer (some ⟨p,r,none⟩)] w R:=wk Tryz.func223
def tW:Wk ⟨⟨[(3,[(3,.int .i64 0)])],[],[],[],[]⟩,false,[]⟩ Tryz.f224 224 rfl rfl #[.pointer b] w R:=wk Tryz.func224
def qZ:Wk N0_ Tryz.f225 225 rfl rfl #[.pointer b] w R:=wk Tryz.func225
def iz:Wk N1_ Tryz.f238 238 rfl rfl #[.slice b c k] w R:=wk Tryz.func238
def vN:Wk ⟨⟨[],[],[1],[],[(1,⟨[0,1,2,4,0,16,32,64,128,264,512,2047],[4095,4094,4093,4091,4095,4079,4063,4031,3967,3831,3583,3071],[0,0,0,1,0,0,0,1,2,0,2,0]⟩)]⟩,true,[6]⟩ Tryz.f250 250 rfl rfl #[.pointer b] w R:=wk Tryz.func250
def dH:Wk N0_ Tryz.f247 247 rfl rfl #[.map h] w R:=wk Tryz.func247
def q_:Wk N0_ Tryz.f248 248 rfl rfl #[.string g,.string m] w R:=wk Tryz.func248
def oF:Wk N0_ Tryz.f253 253 rfl rfl #[.pointer (some ⟨c,k,none⟩),.pointer (some ⟨p,r,none⟩),.pointer (some ⟨t,v,none⟩)] w R:=wk Tryz.func253
def rb:Wk N0_ Tryz.f254 254 rfl rfl #[.pointer b,.ii a] w R:=wk Tryz.func254
def rf:Wk N0_ Tryz.f255 255 rfl rfl #[.pointer (some ⟨c,k,none⟩),.pointer (some ⟨p,r,none⟩)] w R:=wk Tryz.func255
def pA:Wk ⟨⟨[(8,[(6,.int .u64 0),(37,.int .i64 0)])],[(4,[]),(6,[])],[],[],[]⟩,false,[]⟩ Tryz.f256 256 rfl rfl #[.pointer b] w R:=wk Tryz.func256
def GJ:Wk ⟨⟨[(4,[(20,.int .i64 0)]),(9,[(31,.int .i64 0)]),(13,[(49,.int .i64 0)])],[],[10],[10],[]⟩,false,[]⟩ Tryz.f257 257 rfl rfl #[.slice b c k] w R:=wk Tryz.func257
def sN:Wk N0_ Tryz.f258 258 rfl rfl #[.pointer b,.pointer (some ⟨c,k,none⟩)] w R:=wk Tryz.func258
def sO:Wk ⟨⟨[],[(4,[])],[],[],[]⟩,false,[]⟩ Tryz.f241 241 rfl rfl #[.pointer b,.func (.func e) f l] w R:=wk Tryz.func241
def oG:Wk ⟨⟨[],[],[7],[],[]⟩,false,[]⟩ Tryz.f242 242 rfl rfl #[.pointer (some ⟨c,k,none⟩),.pointer (some ⟨p,r,none⟩)] w R:=wk Tryz.func242
def zJ:Wk N0_ Tryz.f243 243 rfl rfl #[.string g] w R:=wk Tryz.func243
