import Derived.Test.YtkpomgifkloklabGreatDoorYfCodeA
set_option linter.all false
set_option maxRecDepth 100000
namespace Go.Proofs.YtkpomgifkloklabGreatDoor
open Go.aw
variable {a i n q s u:Nat} {b j o:Option Addr} {c k:ByteArray} {d l p r t v x y z A B C D E F G H I J K:Int} {e:FuncId} {f m:Array Value} {g:Bool} {h:Option Nat}
variable {w:World} {R:Ending->World->Prop}
def uv:Wk N0_ Tryz.f204 204 rfl rfl #[.pointer (some ⟨a,i,none⟩)] w R:=wk Tryz.func204
def sL:Wk N0_ Tryz.f205 205 rfl rfl #[.pointer b,.string c,.string k] w R:=wk Tryz.func205
def zO:Wk N1_ Tryz.f206 206 rfl rfl #[.ii d] w R:=wk Tryz.func206
def jZ:Wk N1_ Tryz.f207 207 rfl rfl #[.slice b a i,.func (.func e) f m] w R:=wk Tryz.func207
def zP:Wk N1_ Tryz.f208 208 rfl rfl #[.pointer b,.agg #[.ii d,.ii l,.ii p,.slice j a i,.ii r,.ii t,.ii v,.ii x,.ii y,.ii z,.bool g,.ii A,.ii B],.ii C] w R:=wk Tryz.func208
def zi:Wk N1_ Tryz.f209 209 rfl rfl #[.agg #[.ii d,.ii l,.ii p,.slice b a i,.ii r,.ii t,.ii v,.ii x,.ii y,.ii z]] w R:=wk Tryz.func209
def sw:Wk ⟨⟨[],[],[1,5],[5],[(1,⟨[0,1,2,4,8,0,32,64,128,272,512,1024,3072,5120,9216,1024,50176,66560],[262143,262142,262141,262139,262135,262143,262111,262079,262015,261871,261631,261119,259071,257023,252927,261119,211967,195583],[0,0,0,1,0,0,0,0,1,0,0,0,0,0,1,2,2,0]⟩),(4,⟨[0,1,2,4,0,24,32,64,64,255,1023],[2047,2046,2045,2043,2047,2023,2015,1983,1983,1919,1791],[0,0,0,1,1,2,0,0,0,0,0]⟩),(5,⟨[0,0,2,4,8,0,0,64,176,511,1023,1535],[4095,4095,4093,4091,4087,4095,4095,4031,3919,4094,3583,2815],[0,0,0,0,1,0,1,2,2,0,0,2]⟩)]⟩,true,[44]⟩ Tryz.f210 210 rfl rfl #[.pointer b,.agg #[.ii d,.ii l,.ii p,.slice j a i,.ii r,.ii t,.ii v,.ii x,.ii y,.ii z]] w R:=wk Tryz.func210
def jk:Wk N1_ Tryz.f159 159 rfl rfl #[.map h] w R:=wk Tryz.func159
def mR:Wk N0_ Tryz.f171 171 rfl rfl #[.slice b a i] w R:=wk Tryz.func171
def lY:Wk N0_ Tryz.f175 175 rfl rfl #[.slice b a i,.ii d] w R:=wk Tryz.func175
def zQ:Wk N0_ Tryz.f176 176 rfl rfl #[.pointer b,.string c,.func (.func e) f m] w R:=wk Tryz.func176
def qm:Wk N0_ Tryz.f177 177 rfl rfl #[.pointer b,.pointer (some ⟨a,i,none⟩),.pointer (some ⟨n,q,none⟩)] w R:=wk Tryz.func177
def GK:Wk ⟨⟨[(3,[(8,.int .i64 0)])],[],[],[],[]⟩,true,[]⟩ Tryz.f72 72 rfl rfl #[.slice b a i] w R:=wk Tryz.func72
def vC:Wk N1_ Tryz.f73 73 rfl rfl #[.ii d,.ii l] w R:=wk Tryz.func73
def xE:Wk ⟨⟨[],[(2,[(7,.bool false)])],[],[],[]⟩,true,[]⟩ Tryz.f215 215 rfl rfl #[.agg #[.ii d,.ii l,.bool g,.slice b a i],.agg #[.ii p,.ii r,.ii t,.slice j n q,.ii v,.ii x,.ii y,.ii z,.ii A,.ii B],.agg #[.ii C,.ii D,.ii E,.slice o s u,.ii F,.ii G,.ii H,.ii I,.ii J,.ii K]] w R:=wk Tryz.func215
def iI:Wk N1_ Tryz.f217 217 rfl rfl #[.slice b a i] w R:=wk Tryz.func217
def Dd:Wk N1_ Tryz.f218 218 rfl rfl #[.agg #[.ii d,.ii l,.bool g,.slice b a i,.slice j n q,.ii p,.ii r]] w R:=wk Tryz.func218
def AM:Wk ⟨⟨[],[],[1],[],[(1,⟨[0,1,2,4,8,0,32,80,255,511,767],[2047,2046,2045,2043,2039,2047,2015,1967,2045,1791,1407],[1,2,0,0,1,0,1,0,0,0,2]⟩)]⟩,true,[]⟩ Tryz.f219 219 rfl rfl #[.agg #[.ii d,.ii l,.bool g,.slice b a i,.slice j n q,.ii p,.ii r]] w R:=wk Tryz.func219
def zl:Wk N1_ Tryz.f220 220 rfl rfl #[.agg #[.ii d,.ii l,.bool g,.slice b a i,.slice j n q,.ii p,.ii r]] w R:=wk Tryz.func220
def tg:Wk N1_ Tryz.f221 221 rfl rfl #[.agg #[.ii d,.ii l,.bool g,.slice b a i,.slice j n q,.ii p,.ii r]] w R:=wk Tryz.func221
def AN:Wk ⟨⟨[],[],[1],[],[]⟩,true,[]⟩ Tryz.f222 222 rfl rfl #[.agg #[.ii d,.ii l,.bool g,.slice b a i,.slice j n q,.ii p,.ii r]] w R:=wk Tryz.func222
def Df:Wk ⟨⟨[],[],[1],[],[(1,⟨[0,1,2,4,8,0,32,82,128,256,256,1023,4095],[8191,8190,8189,8187,8183,8191,8159,8111,8063,7935,7935,7679,7167],[1,2,0,0,1,0,1,2,0,0,0,0,0]⟩)]⟩,true,[]⟩ Tryz.f223 223 rfl rfl #[.agg #[.ii d,.ii l,.bool g,.slice b a i,.slice j n q,.ii p,.ii r]] w R:=wk Tryz.func223
def KW:Wk ⟨⟨[],[],[4],[4],[(2,⟨[0,1,2,4,0,16,40,64,128,128,511,2047],[4095,4094,4093,4091,4095,4079,4055,4031,3967,3967,3839,3583],[0,0,0,1,0,1,2,0,0,0,0,0]⟩),(4,⟨[0,0,2,4,8,0,0,64,128,304,1023,2047,3071],[8191,8191,8189,8187,8183,8191,8191,8127,8063,7887,8190,7167,5631],[0,0,0,0,1,0,0,1,2,2,0,0,2]⟩)]⟩,true,[]⟩ Tryz.f224 224 rfl rfl #[.agg #[.ii d,.ii l,.bool g,.slice b a i,.slice j n q,.ii p,.ii r]] w R:=wk Tryz.func224
def Dg:Wk ⟨⟨[],[],[],[],[(2,⟨[0,1,2,4,0,16,40,64,128,128,511,2047],[4095,4094,4093,4091,4095,4079,4055,4031,3967,3967,3839,3583],[0,0,0,1,0,1,2,0,0,0,0,0]⟩)]⟩,true,[]⟩ Tryz.f225 225 rfl rfl #[.agg #[.ii d,.ii l,.bool g,.slice b a i,.slice j n q,.ii p,.ii r]] w R:=wk Tryz.func225
def AL:Wk ⟨⟨[],[],[2],[],[(2,⟨[0,1,2,4,8,0,32,80,130,256,768,1280,2304,4096,12288,4096,36864,86016,135168,266240,4096,1052672,2625536,4198656,8388864,33554431],[67108863,67108862,67108861,67108859,67108855,67108863,67108831,67108783,67108735,67108607,67108095,67107583,67106559,67104767,67096575,67104767,67071999,67022847,66973695,66842623,67104767,66056191,64483327,62910207,58719999,50331647],[1,2,0,0,1,0,1,0,0,0,1,0,0,0,1,0,1,0,0,1,0,1,0,0,0,0]⟩)]⟩,true,[]⟩ Tryz.f226 226 rfl rfl #[.agg #[.ii d,.ii l,.bool g,.slice b a i,.slice j n q,.ii p,.ii r]] w R:=wk Tryz.func226
def AO:Wk ⟨⟨[],[],[1],[],[(1,⟨[0,1,0,4,8,0,32,80,128,256,1023,2047,3071],[8191,8190,8191,8187,8183,8191,8159,8111,8063,7935,8189,7167,5631],[1,2,0,0,1,0,1,0,0,1,0,0,2]⟩)]⟩,true,[]⟩ Tryz.f227 227 rfl rfl #[.agg #[.ii d,.ii l,.bool g,.slice b a i,.slice j n q,.ii p,.ii r]] w R:=wk Tryz.func227
def IK:Wk N0_ Tryz.f228 228 rfl rfl #[.agg #[.ii d,.ii l,.ii p,.slice b a i,.ii r,.ii t,.ii v,.ii x,.ii y,.ii z]] w R:=wk Tryz.func228
def IL:Wk N0_ Tryz.f229 229 rfl rfl #[.agg #[.ii d,.slice b a i]] w R:=wk Tryz.func229
def qo:Wk ⟨⟨[],[],[1],[],[(3,⟨[0,0,2,4,8,0,48,127,255,383],[1023,1023,1021,1019,1015,1023,975,1022,895,703],[0,0,0,0,1,1,2,0,0,2]⟩)]⟩,false,[]⟩ Tryz.f230 230 rfl rfl #[.pointer b,.pointer (some ⟨a,i,none⟩),.pointer (some ⟨n,q,none⟩)] w R:=wk Tryz.func230
def vD:Wk ⟨⟨[(3,[(3,.int .i64 0)])],[],[],[],[]⟩,false,[]⟩ Tryz.f231 231 rfl rfl #[.pointer b] w R:=wk Tryz.func231
def sN:Wk N0_ Tryz.f232 232 rfl rfl #[.pointer b] w R:=wk Tryz.func232
def jG:Wk N1_ Tryz.f182 182 rfl rfl #[.slice b a i] w R:=wk Tryz.func182
def xF:Wk ⟨⟨[],[],[1],[],[(1,⟨[0,1,2,4,0,16,32,64,128,264,512,2047],[4095,4094,4093,4091,4095,4079,4063,4031,3967,3831,3583,3071],[0,0,0,1,0,0,0,1,2,0,2,0]⟩)]⟩,true,[6]⟩ Tryz.f252 252 rfl rfl #[.pointer b] w R:=wk Tryz.func252
def dV:Wk N0_ Tryz.f234 234 rfl rfl #[.map h] w R:=wk Tryz.func234
def sO:Wk N0_ Tryz.f235 235 rfl rfl #[.string c,.string k] w R:=wk Tryz.func235
def qp:Wk N0_ Tryz.f255 255 rfl rfl #[.pointer (some ⟨a,i,none⟩),.pointer (some ⟨n,q,none⟩),.pointer (some ⟨s,u,none⟩)] w R:=wk Tryz.func255
def sP:Wk N0_ Tryz.f256 256 rfl rfl #[.pointer b,.ii d] w R:=wk Tryz.func256
def sQ:Wk N0_ Tryz.f257 257 rfl rfl #[.pointer (some ⟨a,i,none⟩),.pointer (some ⟨n,q,none⟩)] w R:=wk Tryz.func257
def qT:Wk ⟨⟨[(8,[(6,.int .u64 0),(37,.int .i64 0)])],[(4,[]),(6,[])],[],[],[]⟩,false,[]⟩ Tryz.f258 258 rfl rfl #[.pointer b] w R:=wk Tryz.func258
def IM:Wk ⟨⟨[(4,[(20,.int .i64 0)]),(9,[(31,.int .i64 0)]),(13,[(49,.int .i64 0)])],[],[10],[10],[]⟩,false,[]⟩ Tryz.f259 259 rfl rfl #[.slice b a i] w R:=wk Tryz.func259
def uw:Wk N0_ Tryz.f260 260 rfl rfl #[.pointer b,.pointer (some ⟨a,i,none⟩)] w R:=wk Tryz.func260
def ux:Wk ⟨⟨[],[(4,[])],[],[],[]⟩,false,[]⟩ Tryz.f237 237 rfl rfl #[.pointer b,.func (.func e) f m] w R:=wk Tryz.func237
def qq:Wk ⟨⟨[],[],[7],[],[]⟩,false,[]⟩ Tryz.f239 239 rfl rfl #[.pointer (some ⟨a,i,none⟩),.pointer (some ⟨n,q,none⟩)] w R:=wk Tryz.func239
def Bn:Wk N0_ Tryz.f240 240 rfl rfl #[.string c] w R:=wk Tryz.func240
def jm:Wk N0_ Tryz.f261 261 rfl rfl #[.slice b a i,.string c] w R:=wk Tryz.func261
def qs:Wk N0_ Tryz.f263 263 rfl rfl #[.pointer b,.pointer (some ⟨a,i,none⟩),.pointer (some ⟨n,q,none⟩),.pointer (some ⟨s,u,none⟩)] w R:=wk Tryz.func263
def lH:Wk ⟨⟨[(2,[(8,.int .i64 0)])],[],[],[],[]⟩,true,[]⟩ Tryz.f264 264 rfl rfl #[.slice b a i,.func (.func e) f m] w R:=wk Tryz.func264
def vE:Wk N1_ Tryz.f265 265 rfl rfl #[.pointer b,.agg #[.ii d,.ii l,.ii p,.slice j a i,.ii r,.ii t,.ii v,.ii x,.ii y,.ii z],.ii A] w R:=wk Tryz.func265
def xG:Wk ⟨⟨[],[(8,[(31,.bool false)])],[],[],[]⟩,true,[]⟩ Tryz.f266 266 rfl rfl #[.pointer b,.agg #[.ii d,.ii l,.ii p],.ii r] w R:=wk Tryz.func266
def fz:Wk N1_ Tryz.f267 267 rfl rfl #[.slice b a i,.func (.func e) f m] w R:=wk Tryz.func267
def pT:Wk N1_ Tryz.f268 268 rfl rfl #[.agg #[.ii d,.ii l,.ii p,.slice b a i,.ii r,.ii t,.ii v,.ii x,.ii y,.ii z],.pointer (some ⟨n,q,none⟩)] w R:=wk Tryz.func268
def dv:Wk ⟨⟨[(3,[(9,.int .i64 0),(10,.int .i64 0)])],[],[],[],[(8,⟨[0,0,0,6,8,16,16,16,208,272,16,1584,2064,4112,2049,32767],[65535,65535,65535,65529,65527,65519,65519,65519,65327,65263,65519,63951,63471,61423,65534,57343],[0,0,0,0,0,0,0,0,0,1,1,2,0,0,0,0]⟩)]⟩,true,[]⟩ Tryz.f269 269 rfl rfl #[.slice b a i,.agg #[.ii d,.ii l,.ii p,.slice j n q,.ii r,.ii t,.ii v,.ii x,.ii y,.ii z],.func (.func e) f m] w R:=wk Tryz.func269
def w_:Wk ⟨⟨[],[],[1],[],[(1,⟨[0,1,0,4,10,0,32,64,0,256,512,1168,0,4096,8192,0,32768,65536,149504,264208,786432,2097151],[4194303,4194302,4194303,4194299,4194293,4194303,4194271,4194239,4194303,4194047,4193791,4193151,4194303,4190207,4186111,4194303,4161535,4128767,4046847,3930095,3670015,3145727],[0,1,0,1,2,0,0,1,0,0,1,2,0,0,1,0,0,1,2,2,2,0]⟩)]⟩,true,[]⟩ Tryz.f270 270 rfl rfl #[.agg #[.ii d,.ii l,.ii p,.slice b a i,.ii r,.ii t,.ii v,.ii x,.ii y,.ii z],.agg #[.ii A,.ii B,.ii C,.slice j n q,.ii D,.ii E,.ii F,.ii G,.ii H,.ii I]] w R:=wk Tryz.func270
def nx:Wk N1_ Tryz.f272 272 rfl rfl #[.agg #[.ii d,.ii l,.ii p,.slice b a i,.ii r,.ii t,.ii v,.ii x,.ii y,.ii z],.pointer (some ⟨n,q,none⟩)] w R:=wk Tryz.func272
def xH:Wk ⟨⟨[],[],[1],[],[(1,⟨[0,1,2,4,0,24,32,64,64,0,767,2047],[4095,4094,4093,4091,4095,4071,4063,4031,4031,4095,3455,3839],[0,0,0,1,1,1,0,0,0,2,2,0]⟩)]⟩,true,[]⟩ Tryz.f273 273 rfl rfl #[.pointer b,.agg #[.ii d,.ii l]] w R:=wk Tryz.func273
def fR:Wk ⟨⟨[(5,[(5,.int .i64 0),(6,.int .i64 0)])],[],[],[],[]⟩,true,[]⟩ Tryz.f274 274 rfl rfl #[.slice b a i,.func (.func e) f m] w R:=wk Tryz.func274
def ny:Wk N1_ Tryz.f275 275 rfl rfl #[.agg #[.ii d,.ii l,.ii p,.slice b a i,.ii r,.ii t,.ii v,.ii x,.ii y,.ii z],.pointer (some ⟨n,q,none⟩)] w R:=wk Tryz.func275
def fT:Wk ⟨⟨[(2,[(8,.int .i64 0)])],[],[],[],[]⟩,true,[]⟩ Tryz.f276 276 rfl rfl #[.slice b a i,.func (.func e) f m] w R:=wk Tryz.func276
def gE:Wk N1_ Tryz.f277 277 rfl rfl #[.slice b a i,.ii d,.ii l] w R:=wk Tryz.func277
def oG:Wk ⟨⟨[(2,[(8,.int .i64 0)])],[],[],[],[]⟩,false,[]⟩ Tryz.f236 236 rfl rfl #[.slice b a i,.ii d] w R:=wk Tryz.func236
def vF:Wk N0_ Tryz.f238 238 rfl rfl #[.pointer (some ⟨a,i,none⟩),.pointer (some ⟨n,q,none⟩),.pointer (some ⟨s,u,none⟩)] w R:=wk Tryz.func238
def zR:Wk N1_ Tryz.f124 124 rfl rfl #[.ii d] w R:=wk Tryz.func124
def uy:Wk N1_ Tryz.f280 280 rfl rfl #[.agg #[.ii d,.ii l,.bool g,.slice b a i],.ii p,.ii r,.ii t,.ii v] w R:=wk Tryz.func280
