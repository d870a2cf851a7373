import Derived.Test.YtkpomgifkloklacGreatDoorYgCodeA
set_option linter.all false
set_option maxRecDepth 100000
namespace Go.Proofs.YtkpomgifkloklacGreatDoor
open Go.aw
variable {a h:Option Addr} {b i l n p r:Nat} {c:ByteArray} {d:FuncId} {e j:Array Value} {f k m o q s t u v x y z A B C D E F:Int} {g:Bool}
variable {w:World} {R:Ending->World->Prop}
def gY:Wk N0_ Tryz.f212 212 rfl rfl #[.slice a b i,.string c] w R:=wk Tryz.func212
def om:Wk N0_ Tryz.f214 214 rfl rfl #[.pointer a,.pointer (some ⟨b,i,none⟩),.pointer (some ⟨l,n,none⟩),.pointer (some ⟨p,r,none⟩)] w R:=wk Tryz.func214
def jK:Wk ⟨⟨[(2,[(8,.int .i64 0)])],[],[],[],[]⟩,true,[]⟩ Tryz.f215 215 rfl rfl #[.slice a b i,.func (.func d) e j] w R:=wk Tryz.func215
def tx:Wk N1_ Tryz.f216 216 rfl rfl #[.pointer a,.agg #[.ii f,.ii k,.ii m,.slice h b i,.ii o,.ii q,.ii s,.ii t,.ii u,.ii v],.ii x] w R:=wk Tryz.func216
def vk:Wk ⟨⟨[],[(8,[(31,.bool false)])],[],[],[]⟩,true,[]⟩ Tryz.f217 217 rfl rfl #[.pointer a,.agg #[.ii f,.ii k,.ii m],.ii o] w R:=wk Tryz.func217
def eH:Wk N1_ Tryz.f239 239 rfl rfl #[.slice a b i,.func (.func d) e j] w R:=wk Tryz.func239
def nR:Wk N1_ Tryz.f240 240 rfl rfl #[.agg #[.ii f,.ii k,.ii m,.slice a b i,.ii o,.ii q,.ii s,.ii t,.ii u,.ii v],.pointer (some ⟨l,n,none⟩)] w R:=wk Tryz.func240
def df:Wk ⟨⟨[(3,[(9,.int .i64 0),(10,.int .i64 0)])],[],[],[],[(8,⟨[0,0,0,6,8,16,16,16,208,272,16,1584,2064,4112,2049,32767],[65535,65535,65535,65529,65527,65519,65519,65519,65327,65263,65519,63951,63471,61423,65534,57343],[0,0,0,0,0,0,0,0,0,1,1,2,0,0,0,0]⟩)]⟩,true,[]⟩ Tryz.f241 241 rfl rfl #[.slice a b i,.agg #[.ii f,.ii k,.ii m,.slice h l n,.ii o,.ii q,.ii s,.ii t,.ii u,.ii v],.func (.func d) e j] w R:=wk Tryz.func241
def uN:Wk ⟨⟨[],[],[1],[],[(1,⟨[0,1,0,4,10,0,32,64,0,256,512,1168,0,4096,8192,0,32768,65536,149504,264208,786432,2097151],[4194303,4194302,4194303,4194299,4194293,4194303,4194271,4194239,4194303,4194047,4193791,4193151,4194303,4190207,4186111,4194303,4161535,4128767,4046847,3930095,3670015,3145727],[0,1,0,1,2,0,0,1,0,0,1,2,0,0,1,0,0,1,2,2,2,0]⟩)]⟩,true,[]⟩ Tryz.f242 242 rfl rfl #[.agg #[.ii f,.ii k,.ii m,.slice a b i,.ii o,.ii q,.ii s,.ii t,.ii u,.ii v],.agg #[.ii x,.ii y,.ii z,.slice h l n,.ii A,.ii B,.ii C,.ii D,.ii E,.ii F]] w R:=wk Tryz.func242
def lK:Wk N1_ Tryz.f244 244 rfl rfl #[.agg #[.ii f,.ii k,.ii m,.slice a b i,.ii o,.ii q,.ii s,.ii t,.ii u,.ii v],.pointer (some ⟨l,n,none⟩)] w R:=wk Tryz.func244
def vl:Wk ⟨⟨[],[],[1],[],[(1,⟨[0,1,2,4,0,24,32,64,64,0,767,2047],[4095,4094,4093,4091,4095,4071,4063,4031,4031,4095,3455,3839],[0,0,0,1,1,1,0,0,0,2,2,0]⟩)]⟩,true,[]⟩ Tryz.f245 245 rfl rfl #[.pointer a,.agg #[.ii f,.ii k]] w R:=wk Tryz.func245
def eX:Wk ⟨⟨[(5,[(5,.int .i64 0),(6,.int .i64 0)])],[],[],[],[]⟩,true,[]⟩ Tryz.f246 246 rfl rfl #[.slice a b i,.func (.func d) e j] w R:=wk Tryz.func246
def lL:Wk N1_ Tryz.f247 247 rfl rfl #[.agg #[.ii f,.ii k,.ii m,.slice a b i,.ii o,.ii q,.ii s,.ii t,.ii u,.ii v],.pointer (some ⟨l,n,none⟩)] w R:=wk Tryz.func247
def e_:Wk ⟨⟨[(2,[(8,.int .i64 0)])],[],[],[],[]⟩,true,[]⟩ Tryz.f248 248 rfl rfl #[.slice a b i,.func (.func d) e j] w R:=wk Tryz.func248
def fE:Wk N1_ Tryz.f249 249 rfl rfl #[.slice a b i,.ii f,.ii k] w R:=wk Tryz.func249
def tA:Wk N0_ Tryz.f238 238 rfl rfl #[.pointer (some ⟨b,i,none⟩),.pointer (some ⟨l,n,none⟩),.pointer (some ⟨p,r,none⟩)] w R:=wk Tryz.func238
def xj:Wk N1_ Tryz.f230 230 rfl rfl #[.ii f] w R:=wk Tryz.func230
def sd:Wk N1_ Tryz.f218 218 rfl rfl #[.agg #[.ii f,.ii k,.bool g,.slice a b i],.ii m,.ii o,.ii q,.ii s] w R:=wk Tryz.func218
def AP:Wk N1_ Tryz.f219 219 rfl rfl #[.agg #[.ii f,.ii k,.ii m,.slice a b i,.ii o,.ii q,.ii s,.ii t,.ii u,.ii v],.agg #[.ii x,.ii y,.ii z,.slice h l n,.ii A,.ii B,.ii C,.ii D,.ii E,.ii F]] w R:=wk Tryz.func219
def Ht:Wk N1_ Tryz.f231 231 rfl rfl #[.ii f,.ii k] w R:=wk Tryz.func231
def lQ:Wk N1_ Tryz.f234 234 rfl rfl #[.slice a b i,.ii f,.ii k] w R:=wk Tryz.func234
def AQ:Wk ⟨⟨[(1,[(7,.int .i64 0)])],[],[],[],[]⟩,false,[]⟩ Tryz.f235 235 rfl rfl #[.slice a b i,.pointer (some ⟨l,n,none⟩)] w R:=wk Tryz.func235
def KL:Wk N0_ Tryz.f237 237 rfl rfl #[.slice a b i] w R:=wk Tryz.func237
def yx:Wk ⟨⟨[(2,[(2,.int .u32 0),(7,.int .i64 0)])],[],[],[],[]⟩,false,[]⟩ Tryz.f255 255 rfl rfl #[.slice a b i] w R:=wk Tryz.func255
def vm:Wk N0_ Tryz.f260 260 rfl rfl #[.int .i32 f] w R:=wk Tryz.func260
def mS:Wk N0_ Tryz.f261 261 rfl rfl #[.string c,.int .i32 f] w R:=wk Tryz.func261
def mT:Wk N0_ Tryz.f262 262 rfl rfl #[.string c,.func (.func d) e j] w R:=wk Tryz.func262
def jb:Wk ⟨⟨[(2,[(8,.int .i64 0)])],[],[],[],[]⟩,false,[]⟩ Tryz.f263 263 rfl rfl #[.slice a b i,.string c] w R:=wk Tryz.func263
def Fc:Wk N0_ Tryz.f264 264 rfl rfl #[.ii f] w R:=wk Tryz.func264
def yy:Wk ⟨⟨[],[],[1],[],[(1,⟨[0,1,0,4,8,18,0,64,128,288,1023],[2047,2046,2047,2043,2039,2029,2047,1983,1919,1759,1535],[0,1,0,0,1,2,0,0,1,0,0]⟩)]⟩,true,[]⟩ Tryz.f265 265 rfl rfl #[.agg #[.ii f,.ii k,.ii m,.slice a b i,.ii o,.ii q,.ii s,.ii t,.ii u,.ii v],.agg #[.ii x,.ii y,.ii z,.slice h l n,.ii A,.ii B,.ii C,.ii D,.ii E,.ii F]] w R:=wk Tryz.func265
def xW:Wk N1_ Tryz.f271 271 rfl rfl #[.ii f,.ii k] w R:=wk Tryz.func271
def rD:Wk N1_ Tryz.f272 272 rfl rfl #[.ii f] w R:=wk Tryz.func272
def qN:Wk N0_ Tryz.f285 285 rfl rfl #[.string c,.func (.func d) e j] w R:=wk Tryz.func285
def lq:Wk N0_ Tryz.f303 303 rfl rfl #[.int .i32 f] w R:=wk Tryz.func303
def qO:Wk ⟨⟨[(2,[])],[],[],[],[]⟩,false,[]⟩ Tryz.f306 306 rfl rfl #[.string c,.func (.func d) e j,.bool g] w R:=wk Tryz.func306
def nN:Wk N1_ Tryz.f342 342 rfl rfl #[.pointer a] w R:=wk Tryz.func342
def rA:Wk N1_ Tryz.f343 343 rfl rfl #[.pointer a,.ii f] w R:=wk Tryz.func343
def qv:Wk N1_ Tryz.f344 344 rfl rfl #[.pointer a,.ii f,.ii k] w R:=wk Tryz.func344
def qP:Wk ⟨⟨[(3,[(12,.int .i64 0)])],[],[],[],[]⟩,true,[]⟩ Tryz.f345 345 rfl rfl #[.pointer a] w R:=wk Tryz.func345
def vo:Wk ⟨⟨[(3,[(3,.slice none 0 0)])],[],[],[],[]⟩,true,[16]⟩ Tryz.f346 346 rfl rfl #[.pointer a] w R:=wk Tryz.func346
def fU:Wk N1_ Tryz.f347 347 rfl rfl #[.slice a b i] w R:=wk Tryz.func347
def se:Wk N1_ Tryz.f349 349 rfl rfl #[.agg #[.ii f,.ii k,.ii m],.agg #[.ii o,.ii q,.ii s]] w R:=wk Tryz.func349
def nT:Wk ⟨⟨[(3,[(19,.int .i64 0)]),(12,[(8,.slice none 0 0),(11,.int .i64 0)])],[],[],[],[]⟩,true,[59]⟩ Tryz.f191 191 rfl rfl #[.pointer a,.pointer h] w R:=wk Tryz.func191
def vT:Wk N0_ Tryz.f257 257 rfl rfl #[.bool g,.ii f] w R:=wk Tryz.func257
def sf:Wk ⟨⟨[],[],[],[],[(1,⟨[0,0,2,4,8,16,0,64,128,256,544,1025,2048],[8191,8191,8189,8187,8183,8175,8191,8127,8063,7935,7647,7166,6143],[0,0,0,0,1,0,0,0,0,1,0,0,2]⟩)]⟩,false,[]⟩ Tryz.f258 258 rfl rfl #[.pointer a,.ii f] w R:=wk Tryz.func258
def As:Wk ⟨⟨[(3,[(5,.int .i64 0),(6,.int .i64 0)])],[],[],[],[]⟩,true,[]⟩ Tryz.f16 16 rfl rfl #[.slice a b i,.agg #[.ii f,.ii k,.ii m,.slice h l n,.ii o,.ii q,.ii s,.ii t,.ii u,.ii v]] w R:=wk Tryz.func16
