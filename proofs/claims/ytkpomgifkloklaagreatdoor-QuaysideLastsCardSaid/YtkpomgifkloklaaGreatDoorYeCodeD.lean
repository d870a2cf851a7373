import Derived.Test.YtkpomgifkloklaaGreatDoorYeCodeA
set_option linter.all false
set_option maxRecDepth 100000
namespace Go.Proofs.YtkpomgifkloklaaGreatDoor
open Go.aw
variable {a i n q s u:Nat} {b j o:Option Addr} {c k:ByteArray} {d l p r t v x y z A B C D E F G H I J K:Int} {e:FuncId} {f m:Array Value} {g:Bool} {h:Option Nat}
variable {w:World} {R:Ending->World->Prop}
def uG:Wk N0_ Tryz.f210 210 rfl rfl #[.pointer (some ⟨a,i,none⟩)] w R:=wk Tryz.func210
def uH:Wk ⟨⟨[],[],[1],[],[]⟩,false,[]⟩ Tryz.f211 211 rfl rfl #[.pointer (some ⟨a,i,none⟩),.pointer (some ⟨n,q,none⟩)] w R:=wk Tryz.func211
def xW:Wk ⟨⟨[(3,[(3,.slice none 0 0),(15,.int .i64 0)])],[],[],[],[]⟩,false,[]⟩ Tryz.f212 212 rfl rfl #[.agg #[.slice b a i]] w R:=wk Tryz.func212
def uI:Wk N0_ Tryz.f213 213 rfl rfl #[.pointer (some ⟨a,i,none⟩)] w R:=wk Tryz.func213
def uJ:Wk N0_ Tryz.f214 214 rfl rfl #[.pointer (some ⟨a,i,none⟩)] w R:=wk Tryz.func214
def te:Wk N0_ Tryz.f215 215 rfl rfl #[.pointer b,.string c,.string k] w R:=wk Tryz.func215
def Ae:Wk N1_ Tryz.f216 216 rfl rfl #[.ii d] w R:=wk Tryz.func216
def kv:Wk N1_ Tryz.f217 217 rfl rfl #[.slice b a i,.func (.func e) f m] w R:=wk Tryz.func217
def Af:Wk N1_ Tryz.f218 218 rfl rfl #[.pointer b,.agg #[.ii d,.ii l,.ii p,.slice j a i,.ii r,.ii t,.ii v,.ii x,.ii y,.ii z,.bool g,.ii A,.ii B],.ii C] w R:=wk Tryz.func218
def zB:Wk N1_ Tryz.f219 219 rfl rfl #[.agg #[.ii d,.ii l,.ii p,.slice b a i,.ii r,.ii t,.ii v,.ii x,.ii y,.ii z]] w R:=wk Tryz.func219
def sN:Wk ⟨⟨[],[],[1,5],[5],[(1,⟨[0,1,2,4,8,0,32,64,128,272,512,1024,3072,5120,9216,1024,50176,66560],[262143,262142,262141,262139,262135,262143,262111,262079,262015,261871,261631,261119,259071,257023,252927,261119,211967,195583],[0,0,0,1,0,0,0,0,1,0,0,0,0,0,1,2,2,0]⟩),(4,⟨[0,1,2,4,0,24,32,64,64,255,1023],[2047,2046,2045,2043,2047,2023,2015,1983,1983,1919,1791],[0,0,0,1,1,2,0,0,0,0,0]⟩),(5,⟨[0,0,2,4,8,0,0,64,176,511,1023,1535],[4095,4095,4093,4091,4087,4095,4095,4031,3919,4094,3583,2815],[0,0,0,0,1,0,1,2,2,0,0,2]⟩)]⟩,true,[44]⟩ Tryz.f220 220 rfl rfl #[.pointer b,.agg #[.ii d,.ii l,.ii p,.slice j a i,.ii r,.ii t,.ii v,.ii x,.ii y,.ii z]] w R:=wk Tryz.func220
def jv:Wk N1_ Tryz.f167 167 rfl rfl #[.map h] w R:=wk Tryz.func167
def nn:Wk N0_ Tryz.f179 179 rfl rfl #[.slice b a i] w R:=wk Tryz.func179
def my:Wk N0_ Tryz.f183 183 rfl rfl #[.slice b a i,.ii d] w R:=wk Tryz.func183
def Ag:Wk N0_ Tryz.f184 184 rfl rfl #[.pointer b,.string c,.func (.func e) f m] w R:=wk Tryz.func184
def qB:Wk N0_ Tryz.f185 185 rfl rfl #[.pointer b,.pointer (some ⟨a,i,none⟩),.pointer (some ⟨n,q,none⟩)] w R:=wk Tryz.func185
def G_:Wk ⟨⟨[(3,[(8,.int .i64 0)])],[],[],[],[]⟩,true,[]⟩ Tryz.f194 194 rfl rfl #[.slice b a i] w R:=wk Tryz.func194
def vS:Wk N1_ Tryz.f195 195 rfl rfl #[.ii d,.ii l] w R:=wk Tryz.func195
def xX:Wk ⟨⟨[],[(2,[(7,.bool false)])],[],[],[]⟩,true,[]⟩ Tryz.f225 225 rfl rfl #[.agg #[.ii d,.ii l,.bool g,.slice b a i],.agg #[.ii p,.ii r,.ii t,.slice j n q,.ii v,.ii x,.ii y,.ii z,.ii A,.ii B],.agg #[.ii C,.ii D,.ii E,.slice o s u,.ii F,.ii G,.ii H,.ii I,.ii J,.ii K]] w R:=wk Tryz.func225
def iS:Wk N1_ Tryz.f227 227 rfl rfl #[.slice b a i] w R:=wk Tryz.func227
def DA:Wk N1_ Tryz.f228 228 rfl rfl #[.agg #[.ii d,.ii l,.bool g,.slice b a i,.slice j n q,.ii p,.ii r]] w R:=wk Tryz.func228
def Bd:Wk ⟨⟨[],[],[1],[],[(1,⟨[0,1,2,4,8,0,32,80,255,511,767],[2047,2046,2045,2043,2039,2047,2015,1967,2045,1791,1407],[1,2,0,0,1,0,1,0,0,0,2]⟩)]⟩,true,[]⟩ Tryz.f229 229 rfl rfl #[.agg #[.ii d,.ii l,.bool g,.slice b a i,.slice j n q,.ii p,.ii r]] w R:=wk Tryz.func229
def zG:Wk N1_ Tryz.f230 230 rfl rfl #[.agg #[.ii d,.ii l,.bool g,.slice b a i,.slice j n q,.ii p,.ii r]] w R:=wk Tryz.func230
def tG:Wk N1_ Tryz.f231 231 rfl rfl #[.agg #[.ii d,.ii l,.bool g,.slice b a i,.slice j n q,.ii p,.ii r]] w R:=wk Tryz.func231
def Be:Wk ⟨⟨[],[],[1],[],[]⟩,true,[]⟩ Tryz.f232 232 rfl rfl #[.agg #[.ii d,.ii l,.bool g,.slice b a i,.slice j n q,.ii p,.ii r]] w R:=wk Tryz.func232
def DB:Wk ⟨⟨[],[],[1],[],[(1,⟨[0,1,2,4,8,0,32,82,128,256,256,1023,4095],[8191,8190,8189,8187,8183,8191,8159,8111,8063,7935,7935,7679,7167],[1,2,0,0,1,0,1,2,0,0,0,0,0]⟩)]⟩,true,[]⟩ Tryz.f233 233 rfl rfl #[.agg #[.ii d,.ii l,.bool g,.slice b a i,.slice j n q,.ii p,.ii r]] w R:=wk Tryz.func233
def Lk:Wk ⟨⟨[],[],[4],[4],[(2,⟨[0,1,2,4,0,16,40,64,128,128,511,2047],[4095,4094,4093,4091,4095,4079,4055,4031,3967,3967,3839,3583],[0,0,0,1,0,1,2,0,0,0,0,0]⟩),(4,⟨[0,0,2,4,8,0,0,64,128,304,1023,2047,3071],[8191,8191,8189,8187,8183,8191,8191,8127,8063,7887,8190,7167,5631],[0,0,0,0,1,0,0,1,2,2,0,0,2]⟩)]⟩,true,[]⟩ Tryz.f234 234 rfl rfl #[.agg #[.ii d,.ii l,.bool g,.slice b a i,.slice j n q,.ii p,.ii r]] w R:=wk Tryz.func234
def DD:Wk ⟨⟨[],[],[],[],[(2,⟨[0,1,2,4,0,16,40,64,128,128,511,2047],[4095,4094,4093,4091,4095,4079,4055,4031,3967,3967,3839,3583],[0,0,0,1,0,1,2,0,0,0,0,0]⟩)]⟩,true,[]⟩ Tryz.f235 235 rfl rfl #[.agg #[.ii d,.ii l,.bool g,.slice b a i,.slice j n q,.ii p,.ii r]] w R:=wk Tryz.func235
def Bc:Wk ⟨⟨[],[],[2],[],[(2,⟨[0,1,2,4,8,0,32,80,130,256,768,1280,2304,4096,12288,4096,36864,86016,135168,266240,4096,1052672,2625536,4198656,8388864,33554431],[67108863,67108862,67108861,67108859,67108855,67108863,67108831,67108783,67108735,67108607,67108095,67107583,67106559,67104767,67096575,67104767,67071999,67022847,66973695,66842623,67104767,66056191,64483327,62910207,58719999,50331647],[1,2,0,0,1,0,1,0,0,0,1,0,0,0,1,0,1,0,0,1,0,1,0,0,0,0]⟩)]⟩,true,[]⟩ Tryz.f236 236 rfl rfl #[.agg #[.ii d,.ii l,.bool g,.slice b a i,.slice j n q,.ii p,.ii r]] w R:=wk Tryz.func236
def Bf:Wk ⟨⟨[],[],[1],[],[(1,⟨[0,1,0,4,8,0,32,80,128,256,1023,2047,3071],[8191,8190,8191,8187,8183,8191,8159,8111,8063,7935,8189,7167,5631],[1,2,0,0,1,0,1,0,0,1,0,0,2]⟩)]⟩,true,[]⟩ Tryz.f237 237 rfl rfl #[.agg #[.ii d,.ii l,.bool g,.slice b a i,.slice j n q,.ii p,.ii r]] w R:=wk Tryz.func237
def Jc:Wk N0_ Tryz.f238 238 rfl rfl #[.agg #[.ii d,.ii l,.ii p,.slice b a i,.ii r,.ii t,.ii v,.ii x,.ii y,.ii z]] w R:=wk Tryz.func238
def Jd:Wk N0_ Tryz.f239 239 rfl rfl #[.agg #[.ii d,.slice b a i]] w R:=wk Tryz.func239
def qC:Wk ⟨⟨[],[],[1],[],[(3,⟨[0,0,2,4,8,0,48,127,255,383],[1023,1023,1021,1019,1015,1023,975,1022,895,703],[0,0,0,0,1,1,2,0,0,2]⟩)]⟩,false,[]⟩ Tryz.f240 240 rfl rfl #[.pointer b,.pointer (some ⟨a,i,none⟩),.pointer (some ⟨n,q,none⟩)] w R:=wk Tryz.func240
def vT:Wk ⟨⟨[(3,[(3,.int .i64 0)])],[],[],[],[]⟩,false,[]⟩ Tryz.f241 241 rfl rfl #[.pointer b] w R:=wk Tryz.func241
def tf:Wk N0_ Tryz.f242 242 rfl rfl #[.pointer b] w R:=wk Tryz.func242
def jX:Wk N1_ Tryz.f190 190 rfl rfl #[.slice b a i] w R:=wk Tryz.func190
def xY:Wk ⟨⟨[],[],[1],[],[(1,⟨[0,1,2,4,0,16,32,64,128,264,512,2047],[4095,4094,4093,4091,4095,4079,4063,4031,3967,3831,3583,3071],[0,0,0,1,0,0,0,1,2,0,2,0]⟩)]⟩,true,[6]⟩ Tryz.f263 263 rfl rfl #[.pointer b] w R:=wk Tryz.func263
def d_:Wk N0_ Tryz.f244 244 rfl rfl #[.map h] w R:=wk Tryz.func244
def tg:Wk N0_ Tryz.f245 245 rfl rfl #[.string c,.string k] w R:=wk Tryz.func245
def qD:Wk N0_ Tryz.f266 266 rfl rfl #[.pointer (some ⟨a,i,none⟩),.pointer (some ⟨n,q,none⟩),.pointer (some ⟨s,u,none⟩)] w R:=wk Tryz.func266
def th:Wk N0_ Tryz.f267 267 rfl rfl #[.pointer b,.ii d] w R:=wk Tryz.func267
def tj:Wk N0_ Tryz.f268 268 rfl rfl #[.pointer (some ⟨a,i,none⟩),.pointer (some ⟨n,q,none⟩)] w R:=wk Tryz.func268
def rm:Wk ⟨⟨[(8,[(6,.int .u64 0),(37,.int .i64 0)])],[(4,[]),(6,[])],[],[],[]⟩,false,[]⟩ Tryz.f269 269 rfl rfl #[.pointer b] w R:=wk Tryz.func269
def Je:Wk ⟨⟨[(4,[(20,.int .i64 0)]),(9,[(31,.int .i64 0)]),(13,[(49,.int .i64 0)])],[],[10],[10],[]⟩,false,[]⟩ Tryz.f270 270 rfl rfl #[.slice b a i] w R:=wk Tryz.func270
def uK:Wk N0_ Tryz.f271 271 rfl rfl #[.pointer b,.pointer (some ⟨a,i,none⟩)] w R:=wk Tryz.func271
def uL:Wk ⟨⟨[],[(4,[])],[],[],[]⟩,false,[]⟩ Tryz.f247 247 rfl rfl #[.pointer b,.func (.func e) f m] w R:=wk Tryz.func247
def qE:Wk ⟨⟨[],[],[7],[],[]⟩,false,[]⟩ Tryz.f249 249 rfl rfl #[.pointer (some ⟨a,i,none⟩),.pointer (some ⟨n,q,none⟩)] w R:=wk Tryz.func249
def BE:Wk N0_ Tryz.f250 250 rfl rfl #[.string c] w R:=wk Tryz.func250
def jw:Wk N0_ Tryz.f272 272 rfl rfl #[.slice b a i,.string c] w R:=wk Tryz.func272
def qF:Wk N0_ Tryz.f274 274 rfl rfl #[.pointer b,.pointer (some ⟨a,i,none⟩),.pointer (some ⟨n,q,none⟩),.pointer (some ⟨s,u,none⟩)] w R:=wk Tryz.func274
def lS:Wk ⟨⟨[(2,[(8,.int .i64 0)])],[],[],[],[]⟩,true,[]⟩ Tryz.f275 275 rfl rfl #[.slice b a i,.func (.func e) f m] w R:=wk Tryz.func275
def vU:Wk N1_ Tryz.f276 276 rfl rfl #[.pointer b,.agg #[.ii d,.ii l,.ii p,.slice j a i,.ii r,.ii t,.ii v,.ii x,.ii y,.ii z],.ii A] w R:=wk Tryz.func276
def xZ:Wk ⟨⟨[],[(8,[(31,.bool false)])],[],[],[]⟩,true,[]⟩ Tryz.f277 277 rfl rfl #[.pointer b,.agg #[.ii d,.ii l,.ii p],.ii r] w R:=wk Tryz.func277
def fG:Wk N1_ Tryz.f278 278 rfl rfl #[.slice b a i,.func (.func e) f m] w R:=wk Tryz.func278
def qk:Wk N1_ Tryz.f279 279 rfl rfl #[.agg #[.ii d,.ii l,.ii p,.slice b a i,.ii r,.ii t,.ii v,.ii x,.ii y,.ii z],.pointer (some ⟨n,q,none⟩)] w R:=wk Tryz.func279
def dz:Wk ⟨⟨[(3,[(9,.int .i64 0),(10,.int .i64 0)])],[],[],[],[(8,⟨[0,0,0,6,8,16,16,16,208,272,16,1584,2064,4112,2049,32767],[65535,65535,65535,65529,65527,65519,65519,65519,65327,65263,65519,63951,63471,61423,65534,57343],[0,0,0,0,0,0,0,0,0,1,1,2,0,0,0,0]⟩)]⟩,true,[]⟩ Tryz.f280 280 rfl rfl #[.slice b a i,.agg #[.ii d,.ii l,.ii p,.slice j n q,.ii r,.ii t,.ii v,.ii x,.ii y,.ii z],.func (.func e) f m] w R:=wk Tryz.func280
def xx:Wk ⟨⟨[],[],[1],[],[(1,⟨[0,1,0,4,10,0,32,64,0,256,512,1168,0,4096,8192,0,32768,65536,149504,264208,786432,2097151],[4194303,4194302,4194303,4194299,4194293,4194303,4194271,4194239,4194303,4194047,4193791,4193151,4194303,4190207,4186111,4194303,4161535,4128767,4046847,3930095,3670015,3145727],[0,1,0,1,2,0,0,1,0,0,1,2,0,0,1,0,0,1,2,2,2,0]⟩)]⟩,true,[]⟩ Tryz.f281 281 rfl rfl #[.agg #[.ii d,.ii l,.ii p,.slice b a i,.ii r,.ii t,.ii v,.ii x,.ii y,.ii z],.agg #[.ii A,.ii B,.ii C,.slice j n q,.ii D,.ii E,.ii F,.ii G,.ii H,.ii I]] w R:=wk Tryz.func281
def nT:Wk N1_ Tryz.f283 283 rfl rfl #[.agg #[.ii d,.ii l,.ii p,.slice b a i,.ii r,.ii t,.ii v,.ii x,.ii y,.ii z],.pointer (some ⟨n,q,none⟩)] w R:=wk Tryz.func283
def x_:Wk ⟨⟨[],[],[1],[],[(1,⟨[0,1,2,4,0,24,32,64,64,0,767,2047],[4095,4094,4093,4091,4095,4071,4063,4031,4031,4095,3455,3839],[0,0,0,1,1,1,0,0,0,2,2,0]⟩)]⟩,true,[]⟩ Tryz.f284 284 rfl rfl #[.pointer b,.agg #[.ii d,.ii l]] w R:=wk Tryz.func284
def fZ:Wk ⟨⟨[(5,[(5,.int .i64 0),(6,.int .i64 0)])],[],[],[],[]⟩,true,[]⟩ Tryz.f285 285 rfl rfl #[.slice b a i,.func (.func e) f m] w R:=wk Tryz.func285
def nU:Wk N1_ Tryz.f286 286 rfl rfl #[.agg #[.ii d,.ii l,.ii p,.slice b a i,.ii r,.ii t,.ii v,.ii x,.ii y,.ii z],.pointer (some ⟨n,q,none⟩)] w R:=wk Tryz.func286
def gg:Wk ⟨⟨[(2,[(8,.int .i64 0)])],[],[],[],[]⟩,true,[]⟩ Tryz.f287 287 rfl rfl #[.slice b a i,.func (.func e) f m] w R:=wk Tryz.func287
def gN:Wk N1_ Tryz.f288 288 rfl rfl #[.slice b a i,.ii d,.ii l] w R:=wk Tryz.func288
def oY:Wk ⟨⟨[(2,[(8,.int .i64 0)])],[],[],[],[]⟩,false,[]⟩ Tryz.f246 246 rfl rfl #[.slice b a i,.ii d] w R:=wk Tryz.func246
def vV:Wk N0_ Tryz.f248 248 rfl rfl #[.pointer (some ⟨a,i,none⟩),.pointer (some ⟨n,q,none⟩),.pointer (some ⟨s,u,none⟩)] w R:=wk Tryz.func248
