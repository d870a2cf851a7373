import Derived.Test.YtjgjkeponbeekaaGreatDoorYiCodeA
set_option linter.all false
set_option maxRecDepth 100000
namespace Go.Proofs.YtjgjkeponbeekaaGreatDoor
open Go.au
variable {a i n:Option Addr} {b j o q s u:Nat} {c k:ByteArray} {d l p r t v x y z A B C D E F G H I J K:Int} {e:FuncId} {f m:Array Value} {g:Bool} {h:Option Nat}
variable {w:World} {R:Ending->World->Prop}
def wj:Wk ⟨⟨[(3,[(3,.slice none 0 0),(15,.int .i64 0)])],[],[],[],[]⟩,false,[]⟩ Tryz.f179 179 rfl rfl #[.agg #[.slice a b j]] w R:=wk Tryz.func179
def tg:Wk N0_ Tryz.f180 180 rfl rfl #[.pointer (some ⟨b,j,none⟩)] w R:=wk Tryz.func180
def th:Wk N0_ Tryz.f181 181 rfl rfl #[.pointer (some ⟨b,j,none⟩)] w R:=wk Tryz.func181
def rE:Wk N0_ Tryz.f182 182 rfl rfl #[.pointer a,.string c,.string k] w R:=wk Tryz.func182
def yu:Wk N1_ Tryz.f183 183 rfl rfl #[.ii d] w R:=wk Tryz.func183
def jb:Wk N1_ Tryz.f184 184 rfl rfl #[.slice a b j,.func (.func e) f m] w R:=wk Tryz.func184
def yv:Wk N1_ Tryz.f185 185 rfl rfl #[.pointer a,.agg #[.ii d,.ii l,.ii p,.slice i b j,.ii r,.ii t,.ii v,.ii x,.ii y,.ii z,.bool g,.ii A,.ii B],.ii C] w R:=wk Tryz.func185
def xP:Wk N1_ Tryz.f186 186 rfl rfl #[.agg #[.ii d,.ii l,.ii p,.slice a b j,.ii r,.ii t,.ii v,.ii x,.ii y,.ii z]] w R:=wk Tryz.func186
def ri:Wk ⟨⟨[],[],[1,5],[5],[(1,⟨[0,1,2,4,8,0,32,64,128,272,512,1024,3072,5120,9216,1024,50176,66560],[262143,262142,262141,262139,262135,262143,262111,262079,262015,261871,261631,261119,259071,257023,252927,261119,211967,195583],[0,0,0,1,0,0,0,0,1,0,0,0,0,0,1,2,2,0]⟩),(4,⟨[0,1,2,4,0,24,32,64,64,255,1023],[2047,2046,2045,2043,2047,2023,2015,1983,1983,1919,1791],[0,0,0,1,1,2,0,0,0,0,0]⟩),(5,⟨[0,0,2,4,8,0,0,64,176,511,1023,1535],[4095,4095,4093,4091,4087,4095,4095,4031,3919,4094,3583,2815],[0,0,0,0,1,0,1,2,2,0,0,2]⟩)]⟩,true,[44]⟩ Tryz.f246 246 rfl rfl #[.pointer a,.agg #[.ii d,.ii l,.ii p,.slice i b j,.ii r,.ii t,.ii v,.ii x,.ii y,.ii z]] w R:=wk Tryz.func246
def ir:Wk N1_ Tryz.f198 198 rfl rfl #[.map h] w R:=wk Tryz.func198
def lS:Wk N0_ Tryz.f207 207 rfl rfl #[.slice a b j] w R:=wk Tryz.func207
def kY:Wk N0_ Tryz.f209 209 rfl rfl #[.slice a b j,.ii d] w R:=wk Tryz.func209
def yw:Wk N0_ Tryz.f210 210 rfl rfl #[.pointer a,.string c,.func (.func e) f m] w R:=wk Tryz.func210
def oX:Wk N0_ Tryz.f211 211 rfl rfl #[.pointer a,.pointer (some ⟨b,j,none⟩),.pointer (some ⟨o,q,none⟩)] w R:=wk Tryz.func211
def EM:Wk ⟨⟨[(3,[(8,.int .i64 0)])],[],[],[],[]⟩,true,[]⟩ Tryz.f219 219 rfl rfl #[.slice a b j] w R:=wk Tryz.func219
def uj:Wk N1_ Tryz.f220 220 rfl rfl #[.ii d,.ii l] w R:=wk Tryz.func220
def wm:Wk ⟨⟨[],[(2,[(7,.bool false)])],[],[],[]⟩,true,[]⟩ Tryz.f251 251 rfl rfl #[.agg #[.ii d,.ii l,.bool g,.slice a b j],.agg #[.ii p,.ii r,.ii t,.slice i o q,.ii v,.ii x,.ii y,.ii z,.ii A,.ii B],.agg #[.ii C,.ii D,.ii E,.slice n s u,.ii F,.ii G,.ii H,.ii I,.ii J,.ii K]] w R:=wk Tryz.func251
def gO:Wk N1_ Tryz.f253 253 rfl rfl #[.slice a b j] w R:=wk Tryz.func253
def BP:Wk N1_ Tryz.f254 254 rfl rfl #[.agg #[.ii d,.ii l,.bool g,.slice a b j,.slice i o q,.ii p,.ii r]] w R:=wk Tryz.func254
def zG:Wk ⟨⟨[],[],[1],[],[(1,⟨[0,1,2,4,8,0,32,80,255,511,767],[2047,2046,2045,2043,2039,2047,2015,1967,2045,1791,1407],[1,2,0,0,1,0,1,0,0,0,2]⟩)]⟩,true,[]⟩ Tryz.f255 255 rfl rfl #[.agg #[.ii d,.ii l,.bool g,.slice a b j,.slice i o q,.ii p,.ii r]] w R:=wk Tryz.func255
def xQ:Wk N1_ Tryz.f256 256 rfl rfl #[.agg #[.ii d,.ii l,.bool g,.slice a b j,.slice i o q,.ii p,.ii r]] w R:=wk Tryz.func256
def rY:Wk N1_ Tryz.f257 257 rfl rfl #[.agg #[.ii d,.ii l,.bool g,.slice a b j,.slice i o q,.ii p,.ii r]] w R:=wk Tryz.func257
def zH:Wk ⟨⟨[],[],[1],[],[]⟩,true,[]⟩ Tryz.f258 258 rfl rfl #[.agg #[.ii d,.ii l,.bool g,.slice a b j,.slice i o q,.ii p,.ii r]] w R:=wk Tryz.func258
def BQ:Wk ⟨⟨[],[],[1],[],[(1,⟨[0,1,2,4,8,0,32,82,128,256,256,1023,4095],[8191,8190,8189,8187,8183,8191,8159,8111,8063,7935,7935,7679,7167],[1,2,0,0,1,0,1,2,0,0,0,0,0]⟩)]⟩,true,[]⟩ Tryz.f259 259 rfl rfl #[.agg #[.ii d,.ii l,.bool g,.slice a b j,.slice i o q,.ii p,.ii r]] w R:=wk Tryz.func259
def Jb:Wk ⟨⟨[],[],[4],[4],[(2,⟨[0,1,2,4,0,16,40,64,128,128,511,2047],[4095,4094,4093,4091,4095,4079,4055,4031,3967,3967,3839,3583],[0,0,0,1,0,1,2,0,0,0,0,0]⟩),(4,⟨[0,0,2,4,8,0,0,64,128,304,1023,2047,3071],[8191,8191,8189,8187,8183,8191,8191,8127,8063,7887,8190,7167,5631],[0,0,0,0,1,0,0,1,2,2,0,0,2]⟩)]⟩,true,[]⟩ Tryz.f260 260 rfl rfl #[.agg #[.ii d,.ii l,.bool g,.slice a b j,.slice i o q,.ii p,.ii r]] w R:=wk Tryz.func260
def BR:Wk ⟨⟨[],[],[],[],[(2,⟨[0,1,2,4,0,16,40,64,128,128,511,2047],[4095,4094,4093,4091,4095,4079,4055,4031,3967,3967,3839,3583],[0,0,0,1,0,1,2,0,0,0,0,0]⟩)]⟩,true,[]⟩ Tryz.f261 261 rfl rfl #[.agg #[.ii d,.ii l,.bool g,.slice a b j,.slice i o q,.ii p,.ii r]] w R:=wk Tryz.func261
def zF:Wk ⟨⟨[],[],[2],[],[(2,⟨[0,1,2,4,8,0,32,80,130,256,768,1280,2304,4096,12288,4096,36864,86016,135168,266240,4096,1052672,2625536,4198656,8388864,33554431],[67108863,67108862,67108861,67108859,67108855,67108863,67108831,67108783,67108735,67108607,67108095,67107583,67106559,67104767,67096575,67104767,67071999,67022847,66973695,66842623,67104767,66056191,64483327,62910207,58719999,50331647],[1,2,0,0,1,0,1,0,0,0,1,0,0,0,1,0,1,0,0,1,0,1,0,0,0,0]⟩)]⟩,true,[]⟩ Tryz.f262 262 rfl rfl #[.agg #[.ii d,.ii l,.bool g,.slice a b j,.slice i o q,.ii p,.ii r]] w R:=wk Tryz.func262
def zI:Wk ⟨⟨[],[],[1],[],[(1,⟨[0,1,0,4,8,0,32,80,128,256,1023,2047,3071],[8191,8190,8191,8187,8183,8191,8159,8111,8063,7935,8189,7167,5631],[1,2,0,0,1,0,1,0,0,1,0,0,2]⟩)]⟩,true,[]⟩ Tryz.f263 263 rfl rfl #[.agg #[.ii d,.ii l,.bool g,.slice a b j,.slice i o q,.ii p,.ii r]] w R:=wk Tryz.func263
def Hg:Wk N0_ Tryz.f264 264 rfl rfl #[.agg #[.ii d,.ii l,.ii p,.slice a b j,.ii r,.ii t,.ii v,.ii x,.ii y,.ii z]] w R:=wk Tryz.func264
def Hh:Wk N0_ Tryz.f241 241 rfl rfl #[.agg #[.ii d,.slice a b j]] w R:=wk Tryz.func241
def oY:Wk ⟨⟨[],[],[1],[],[(3,⟨[0,0,2,4,8,0,48,127,255,383],[1023,1023,1021,1019,1015,1023,975,1022,895,703],[0,0,0,0,1,1,2,0,0,2]⟩)]⟩,false,[]⟩ Tryz.f238 238 rfl rfl #[.pointer a,.pointer (some ⟨b,j,none⟩),.pointer (some ⟨o,q,none⟩)] w R:=wk Tryz.func238
def uk:Wk ⟨⟨[(3,[(3,.int .i64 0)])],[],[],[],[]⟩,false,[]⟩ Tryz.f239 239 rfl rfl #[.pointer a] w R:=wk Tryz.func239
def rF:Wk N0_ Tryz.f236 236 rfl rfl #[.pointer a] w R:=wk Tryz.func236
def iM:Wk N1_ Tryz.f215 215 rfl rfl #[.slice a b j] w R:=wk Tryz.func215
def wo:Wk ⟨⟨[],[],[1],[],[(1,⟨[0,1,2,4,0,16,32,64,128,264,512,2047],[4095,4094,4093,4091,4095,4079,4063,4031,3967,3831,3583,3071],[0,0,0,1,0,0,0,1,2,0,2,0]⟩)]⟩,true,[6]⟩ Tryz.f221 221 rfl rfl #[.pointer a] w R:=wk Tryz.func221
def dm:Wk N0_ Tryz.f223 223 rfl rfl #[.map h] w R:=wk Tryz.func223
def rG:Wk N0_ Tryz.f224 224 rfl rfl #[.string c,.string k] w R:=wk Tryz.func224
def oZ:Wk N0_ Tryz.f227 227 rfl rfl #[.pointer (some ⟨b,j,none⟩),.pointer (some ⟨o,q,none⟩),.pointer (some ⟨s,u,none⟩)] w R:=wk Tryz.func227
def rH:Wk N0_ Tryz.f228 228 rfl rfl #[.pointer a,.ii d] w R:=wk Tryz.func228
def rJ:Wk N0_ Tryz.f229 229 rfl rfl #[.pointer (some ⟨b,j,none⟩),.pointer (some ⟨o,q,none⟩)] w R:=wk Tryz.func229
def pT:Wk ⟨⟨[(8,[(6,.int .u64 0),(37,.int .i64 0)])],[(4,[]),(6,[])],[],[],[]⟩,false,[]⟩ Tryz.f230 230 rfl rfl #[.pointer a] w R:=wk Tryz.func230
def Hi:Wk ⟨⟨[(4,[(20,.int .i64 0)]),(9,[(31,.int .i64 0)]),(13,[(49,.int .i64 0)])],[],[10],[10],[]⟩,false,[]⟩ Tryz.f231 231 rfl rfl #[.slice a b j] w R:=wk Tryz.func231
def tj:Wk N0_ Tryz.f232 232 rfl rfl #[.pointer a,.pointer (some ⟨b,j,none⟩)] w R:=wk Tryz.func232
def tk:Wk ⟨⟨[],[(4,[])],[],[],[]⟩,false,[]⟩ Tryz.f233 233 rfl rfl #[.pointer a,.func (.func e) f m] w R:=wk Tryz.func233
def o_:Wk ⟨⟨[],[],[7],[],[]⟩,false,[]⟩ Tryz.f234 234 rfl rfl #[.pointer (some ⟨b,j,none⟩),.pointer (some ⟨o,q,none⟩)] w R:=wk Tryz.func234
def Al:Wk N0_ Tryz.f235 235 rfl rfl #[.string c] w R:=wk Tryz.func235
def iu:Wk N0_ Tryz.f237 237 rfl rfl #[.slice a b j,.string c] w R:=wk Tryz.func237
def pd:Wk N0_ Tryz.f242 242 rfl rfl #[.pointer a,.pointer (some ⟨b,j,none⟩),.pointer (some ⟨o,q,none⟩),.pointer (some ⟨s,u,none⟩)] w R:=wk Tryz.func242
def kh:Wk ⟨⟨[(2,[(8,.int .i64 0)])],[],[],[],[]⟩,true,[]⟩ Tryz.f243 243 rfl rfl #[.slice a b j,.func (.func e) f m] w R:=wk Tryz.func243
def um:Wk N1_ Tryz.f244 244 rfl rfl #[.pointer a,.agg #[.ii d,.ii l,.ii p,.slice i b j,.ii r,.ii t,.ii v,.ii x,.ii y,.ii z],.ii A] w R:=wk Tryz.func244
def wq:Wk ⟨⟨[],[(8,[(31,.bool false)])],[],[],[]⟩,true,[]⟩ Tryz.f245 245 rfl rfl #[.pointer a,.agg #[.ii d,.ii l,.ii p],.ii r] w R:=wk Tryz.func245
def eE:Wk N1_ Tryz.f295 295 rfl rfl #[.slice a b j,.func (.func e) f m] w R:=wk Tryz.func295
def oI:Wk N1_ Tryz.f296 296 rfl rfl #[.agg #[.ii d,.ii l,.ii p,.slice a b j,.ii r,.ii t,.ii v,.ii x,.ii y,.ii z],.pointer (some ⟨o,q,none⟩)] w R:=wk Tryz.func296
def cQ:Wk ⟨⟨[(3,[(9,.int .i64 0),(10,.int .i64 0)])],[],[],[],[(8,⟨[0,0,0,6,8,16,16,16,208,272,16,1584,2064,4112,2049,32767],[65535,65535,65535,65529,65527,65519,65519,65519,65327,65263,65519,63951,63471,61423,65534,57343],[0,0,0,0,0,0,0,0,0,1,1,2,0,0,0,0]⟩)]⟩,true,[]⟩ Tryz.f297 297 rfl rfl #[.slice a b j,.agg #[.ii d,.ii l,.ii p,.slice i o q,.ii r,.ii t,.ii v,.ii x,.ii y,.ii z],.func (.func e) f m] w R:=wk Tryz.func297
def vD:Wk ⟨⟨[],[],[1],[],[(1,⟨[0,1,0,4,10,0,32,64,0,256,512,1168,0,4096,8192,0,32768,65536,149504,264208,786432,2097151],[4194303,4194302,4194303,4194299,4194293,4194303,4194271,4194239,4194303,4194047,4193791,4193151,4194303,4190207,4186111,4194303,4161535,4128767,4046847,3930095,3670015,3145727],[0,1,0,1,2,0,0,1,0,0,1,2,0,0,1,0,0,1,2,2,2,0]⟩)]⟩,true,[]⟩ Tryz.f298 298 rfl rfl #[.agg #[.ii d,.ii l,.ii p,.slice a b j,.ii r,.ii t,.ii v,.ii x,.ii y,.ii z],.agg #[.ii A,.ii B,.ii C,.slice i o q,.ii D,.ii E,.ii F,.ii G,.ii H,.ii I]] w R:=wk Tryz.func298
def mD:Wk N1_ Tryz.f300 300 rfl rfl #[.agg #[.ii d,.ii l,.ii p,.slice a b j,.ii r,.ii t,.ii v,.ii x,.ii y,.ii z],.pointer (some ⟨o,q,none⟩)] w R:=wk Tryz.func300
def wu:Wk ⟨⟨[],[],[1],[],[(1,⟨[0,1,2,4,0,24,32,64,64,0,767,2047],[4095,4094,4093,4091,4095,4071,4063,4031,4031,4095,3455,3839],[0,0,0,1,1,1,0,0,0,2,2,0]⟩)]⟩,true,[]⟩ Tryz.f301 301 rfl rfl #[.pointer a,.agg #[.ii d,.ii l]] w R:=wk Tryz.func301
def fe:Wk ⟨⟨[(5,[(5,.int .i64 0),(6,.int .i64 0)])],[],[],[],[]⟩,true,[]⟩ Tryz.f302 302 rfl rfl #[.slice a b j,.func (.func e) f m] w R:=wk Tryz.func302
def mE:Wk N1_ Tryz.f303 303 rfl rfl #[.agg #[.ii d,.ii l,.ii p,.slice a b j,.ii r,.ii t,.ii v,.ii x,.ii y,.ii z],.pointer (some ⟨o,q,none⟩)] w R:=wk Tryz.func303
def fj:Wk ⟨⟨[(2,[(8,.int .i64 0)])],[],[],[],[]⟩,true,[]⟩ Tryz.f304 304 rfl rfl #[.slice a b j,.func (.func e) f m] w R:=wk Tryz.func304
def fH:Wk N1_ Tryz.f305 305 rfl rfl #[.slice a b j,.ii d,.ii l] w R:=wk Tryz.func305
def nH:Wk ⟨⟨[(2,[(8,.int .i64 0)])],[],[],[],[]⟩,false,[]⟩ Tryz.f265 265 rfl rfl #[.slice a b j,.ii d] w R:=wk Tryz.func265
def uo:Wk N0_ Tryz.f266 266 rfl rfl #[.pointer (some ⟨b,j,none⟩),.pointer (some ⟨o,q,none⟩),.pointer (some ⟨s,u,none⟩)] w R:=wk Tryz.func266
def yx:Wk N1_ Tryz.f278 278 rfl rfl #[.ii d] w R:=wk Tryz.func278
def tl:Wk N1_ Tryz.f308 308 rfl rfl #[.agg #[.ii d,.ii l,.bool g,.slice a b j],.ii p,.ii r,.ii t,.ii v] w R:=wk Tryz.func308
def Ch:Wk N1_ Tryz.f309 309 rfl rfl #[.agg #[.ii d,.ii l,.ii p,.slice a b j,.ii r,.ii t,.ii v,.ii x,.ii y,.ii z],.agg #[.ii A,.ii B,.ii C,.slice i o q,.ii D,.ii E,.ii F,.ii G,.ii H,.ii I]] w R:=wk Tryz.func309
