import Derived.Test.YtblabbpipmodgaaGreatDoorYqCodeA
set_option linter.all false
set_option maxRecDepth 100000
namespace Go.Proofs.YtblabbpipmodgaaGreatDoor
open Go.aw
variable {a h:Option Addr} {b i l n p r:Nat} {c:ByteArray} {d:FuncId} {e j:Array Value} {f k m o q s t u v x y z A B C D E F:Int} {g:Bool}
variable {w:World} {R:Ending->World->Prop}
def gQ:Wk N0_ Tryz.f259 259 rfl rfl #[.slice a b i,.string c] w R:=wk Tryz.func259
def ob:Wk N0_ Tryz.f261 261 rfl rfl #[.pointer a,.pointer (some ⟨b,i,none⟩),.pointer (some ⟨l,n,none⟩),.pointer (some ⟨p,r,none⟩)] w R:=wk Tryz.func261
def jF:Wk ⟨⟨[(2,[(8,.int .i64 0)])],[],[],[],[]⟩,true,[]⟩ Tryz.f262 262 rfl rfl #[.slice a b i,.func (.func d) e j] w R:=wk Tryz.func262
def tw:Wk N1_ Tryz.f263 263 rfl rfl #[.pointer a,.agg #[.ii f,.ii k,.ii m,.slice h b i,.ii o,.ii q,.ii s,.ii t,.ii u,.ii v],.ii x] w R:=wk Tryz.func263
def vu:Wk ⟨⟨[],[(8,[(31,.bool false)])],[],[],[]⟩,true,[]⟩ Tryz.f264 264 rfl rfl #[.pointer a,.agg #[.ii f,.ii k,.ii m],.ii o] w R:=wk Tryz.func264
def eu:Wk N1_ Tryz.f226 226 rfl rfl #[.slice a b i,.func (.func d) e j] w R:=wk Tryz.func226
def nH:Wk N1_ Tryz.f227 227 rfl rfl #[.agg #[.ii f,.ii k,.ii m,.slice a b i,.ii o,.ii q,.ii s,.ii t,.ii u,.ii v],.pointer (some ⟨l,n,none⟩)] w R:=wk Tryz.func227
def cU:Wk ⟨⟨[(3,[(9,.int .i64 0),(10,.int .i64 0)])],[],[],[],[(8,⟨[0,0,0,6,8,16,16,16,208,272,16,1584,2064,4112,2049,32767],[65535,65535,65535,65529,65527,65519,65519,65519,65327,65263,65519,63951,63471,61423,65534,57343],[0,0,0,0,0,0,0,0,0,1,1,2,0,0,0,0]⟩)]⟩,true,[]⟩ Tryz.f228 228 rfl rfl #[.slice a b i,.agg #[.ii f,.ii k,.ii m,.slice h l n,.ii o,.ii q,.ii s,.ii t,.ii u,.ii v],.func (.func d) e j] w R:=wk Tryz.func228
def uQ:Wk ⟨⟨[],[],[1],[],[(1,⟨[0,1,0,4,10,0,32,64,0,256,512,1168,0,4096,8192,0,32768,65536,149504,264208,786432,2097151],[4194303,4194302,4194303,4194299,4194293,4194303,4194271,4194239,4194303,4194047,4193791,4193151,4194303,4190207,4186111,4194303,4161535,4128767,4046847,3930095,3670015,3145727],[0,1,0,1,2,0,0,1,0,0,1,2,0,0,1,0,0,1,2,2,2,0]⟩)]⟩,true,[]⟩ Tryz.f229 229 rfl rfl #[.agg #[.ii f,.ii k,.ii m,.slice a b i,.ii o,.ii q,.ii s,.ii t,.ii u,.ii v],.agg #[.ii x,.ii y,.ii z,.slice h l n,.ii A,.ii B,.ii C,.ii D,.ii E,.ii F]] w R:=wk Tryz.func229
def lD:Wk N1_ Tryz.f231 231 rfl rfl #[.agg #[.ii f,.ii k,.ii m,.slice a b i,.ii o,.ii q,.ii s,.ii t,.ii u,.ii v],.pointer (some ⟨l,n,none⟩)] w R:=wk Tryz.func231
def vv:Wk ⟨⟨[],[],[1],[],[(1,⟨[0,1,2,4,0,24,32,64,64,0,767,2047],[4095,4094,4093,4091,4095,4071,4063,4031,4031,4095,3455,3839],[0,0,0,1,1,1,0,0,0,2,2,0]⟩)]⟩,true,[]⟩ Tryz.f232 232 rfl rfl #[.pointer a,.agg #[.ii f,.ii k]] w R:=wk Tryz.func232
def eR:Wk ⟨⟨[(5,[(5,.int .i64 0),(6,.int .i64 0)])],[],[],[],[]⟩,true,[]⟩ Tryz.f233 233 rfl rfl #[.slice a b i,.func (.func d) e j] w R:=wk Tryz.func233
def lE:Wk N1_ Tryz.f234 234 rfl rfl #[.agg #[.ii f,.ii k,.ii m,.slice a b i,.ii o,.ii q,.ii s,.ii t,.ii u,.ii v],.pointer (some ⟨l,n,none⟩)] w R:=wk Tryz.func234
def eT:Wk ⟨⟨[(2,[(8,.int .i64 0)])],[],[],[],[]⟩,true,[]⟩ Tryz.f235 235 rfl rfl #[.slice a b i,.func (.func d) e j] w R:=wk Tryz.func235
def fu:Wk N1_ Tryz.f236 236 rfl rfl #[.slice a b i,.ii f,.ii k] w R:=wk Tryz.func236
def mD:Wk ⟨⟨[(2,[(8,.int .i64 0)])],[],[],[],[]⟩,false,[]⟩ Tryz.f249 249 rfl rfl #[.slice a b i,.ii f] w R:=wk Tryz.func249
def tx:Wk N0_ Tryz.f244 244 rfl rfl #[.pointer (some ⟨b,i,none⟩),.pointer (some ⟨l,n,none⟩),.pointer (some ⟨p,r,none⟩)] w R:=wk Tryz.func244
def xH:Wk N1_ Tryz.f277 277 rfl rfl #[.ii f] w R:=wk Tryz.func277
def sj:Wk N1_ Tryz.f265 265 rfl rfl #[.agg #[.ii f,.ii k,.bool g,.slice a b i],.ii m,.ii o,.ii q,.ii s] w R:=wk Tryz.func265
def Bu:Wk N1_ Tryz.f266 266 rfl rfl #[.agg #[.ii f,.ii k,.ii m,.slice a b i,.ii o,.ii q,.ii s,.ii t,.ii u,.ii v],.agg #[.ii x,.ii y,.ii z,.slice h l n,.ii A,.ii B,.ii C,.ii D,.ii E,.ii F]] w R:=wk Tryz.func266
def HZ:Wk N1_ Tryz.f278 278 rfl rfl #[.ii f,.ii k] w R:=wk Tryz.func278
def lK:Wk N1_ Tryz.f281 281 rfl rfl #[.slice a b i,.ii f,.ii k] w R:=wk Tryz.func281
def Bv:Wk ⟨⟨[(1,[(7,.int .i64 0)])],[],[],[],[]⟩,false,[]⟩ Tryz.f282 282 rfl rfl #[.slice a b i,.pointer (some ⟨l,n,none⟩)] w R:=wk Tryz.func282
def Lq:Wk N0_ Tryz.f284 284 rfl rfl #[.slice a b i] w R:=wk Tryz.func284
def y_:Wk ⟨⟨[(2,[(2,.int .u32 0),(7,.int .i64 0)])],[],[],[],[]⟩,false,[]⟩ Tryz.f299 299 rfl rfl #[.slice a b i] w R:=wk Tryz.func299
def vw:Wk N0_ Tryz.f290 290 rfl rfl #[.int .i32 f] w R:=wk Tryz.func290
def mQ:Wk N0_ Tryz.f291 291 rfl rfl #[.string c,.int .i32 f] w R:=wk Tryz.func291
def mR:Wk N0_ Tryz.f292 292 rfl rfl #[.string c,.func (.func d) e j] w R:=wk Tryz.func292
def iV:Wk ⟨⟨[(2,[(8,.int .i64 0)])],[],[],[],[]⟩,false,[]⟩ Tryz.f303 303 rfl rfl #[.slice a b i,.string c] w R:=wk Tryz.func303
def Gc:Wk N0_ Tryz.f304 304 rfl rfl #[.ii f] w R:=wk Tryz.func304
def za:Wk ⟨⟨[],[],[1],[],[(1,⟨[0,1,0,4,8,18,0,64,128,288,1023],[2047,2046,2047,2043,2039,2029,2047,1983,1919,1759,1535],[0,1,0,0,1,2,0,0,1,0,0]⟩)]⟩,true,[]⟩ Tryz.f305 305 rfl rfl #[.agg #[.ii f,.ii k,.ii m,.slice a b i,.ii o,.ii q,.ii s,.ii t,.ii u,.ii v],.agg #[.ii x,.ii y,.ii z,.slice h l n,.ii A,.ii B,.ii C,.ii D,.ii E,.ii F]] w R:=wk Tryz.func305
def yy:Wk N1_ Tryz.f311 311 rfl rfl #[.ii f,.ii k] w R:=wk Tryz.func311
def rF:Wk N1_ Tryz.f312 312 rfl rfl #[.ii f] w R:=wk Tryz.func312
def qL:Wk N0_ Tryz.f321 321 rfl rfl #[.string c,.func (.func d) e j] w R:=wk Tryz.func321
def kW:Wk N0_ Tryz.f342 342 rfl rfl #[.int .i32 f] w R:=wk Tryz.func342
def qM:Wk ⟨⟨[(2,[])],[],[],[],[]⟩,false,[]⟩ Tryz.f345 345 rfl rfl #[.string c,.func (.func d) e j,.bool g] w R:=wk Tryz.func345
def nE:Wk N1_ Tryz.f389 389 rfl rfl #[.pointer a] w R:=wk Tryz.func389
def rD:Wk N1_ Tryz.f390 390 rfl rfl #[.pointer a,.ii f] w R:=wk Tryz.func390
def qq:Wk N1_ Tryz.f391 391 rfl rfl #[.pointer a,.ii f,.ii k] w R:=wk Tryz.func391
def qN:Wk ⟨⟨[(3,[(12,.int .i64 0)])],[],[],[],[]⟩,true,[]⟩ Tryz.f392 392 rfl rfl #[.pointer a] w R:=wk Tryz.func392
def vx:Wk ⟨⟨[(3,[(3,.slice none 0 0)])],[],[],[],[]⟩,true,[16]⟩ Tryz.f393 393 rfl rfl #[.pointer a] w R:=wk Tryz.func393
def fG:Wk N1_ Tryz.f394 394 rfl rfl #[.slice a b i] w R:=wk Tryz.func394
def sk:Wk N1_ Tryz.f396 396 rfl rfl #[.agg #[.ii f,.ii k,.ii m],.agg #[.ii o,.ii q,.ii s]] w R:=wk Tryz.func396
def nI:Wk ⟨⟨[(3,[(19,.int .i64 0)]),(12,[(8,.slice none 0 0),(11,.int .i64 0)])],[],[],[],[]⟩,true,[59]⟩ Tryz.f160 160 rfl rfl #[.pointer a,.pointer h] w R:=wk Tryz.func160
def vZ:Wk N0_ Tryz.f301 301 rfl rfl #[.bool g,.ii f] w R:=wk Tryz.func301
def sq:Wk ⟨⟨[],[],[],[],[(1,⟨[0,0,2,4,8,16,0,64,128,256,544,1025,2048],[8191,8191,8189,8187,8183,8175,8191,8127,8063,7935,7647,7166,6143],[0,0,0,0,1,0,0,0,0,1,0,0,2]⟩)]⟩,false,[]⟩ Tryz.f302 302 rfl rfl #[.pointer a,.ii f] w R:=wk Tryz.func302
