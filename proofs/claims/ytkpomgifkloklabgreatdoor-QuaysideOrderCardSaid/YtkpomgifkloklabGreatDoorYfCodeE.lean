import Derived.Test.YtkpomgifkloklabGreatDoorYfCodeA
set_option linter.all false
set_option maxRecDepth 100000
namespace Go.Proofs.YtkpomgifkloklabGreatDoor
open Go.aw
variable {a h l o q s u v x y z A B C D E F G:Int} {b i m:Option Addr} {c j n p r t:Nat} {d:ByteArray} {e:FuncId} {f k:Array Value} {g:Bool}
variable {w:World} {R:Ending->World->Prop}
def DE:Wk N1_ Tryz.f281 281 rfl rfl #[.agg #[.ii a,.ii h,.ii l,.slice b c j,.ii o,.ii q,.ii s,.ii u,.ii v,.ii x],.agg #[.ii y,.ii z,.ii A,.slice i n p,.ii B,.ii C,.ii D,.ii E,.ii F,.ii G]] w R:=wk Tryz.func281
def KR:Wk N1_ Tryz.f282 282 rfl rfl #[.ii a,.ii h] w R:=wk Tryz.func282
def nG:Wk N1_ Tryz.f285 285 rfl rfl #[.slice b c j,.ii a,.ii h] w R:=wk Tryz.func285
def DF:Wk ⟨⟨[(1,[(7,.int .i64 0)])],[],[],[],[]⟩,false,[]⟩ Tryz.f286 286 rfl rfl #[.slice b c j,.pointer (some ⟨n,p,none⟩)] w R:=wk Tryz.func286
def OX:Wk N0_ Tryz.f288 288 rfl rfl #[.slice b c j] w R:=wk Tryz.func288
def Bo:Wk ⟨⟨[(2,[(2,.int .u32 0),(7,.int .i64 0)])],[],[],[],[]⟩,false,[]⟩ Tryz.f303 303 rfl rfl #[.slice b c j] w R:=wk Tryz.func303
def xI:Wk N0_ Tryz.f293 293 rfl rfl #[.int .i32 a] w R:=wk Tryz.func293
def oT:Wk N0_ Tryz.f294 294 rfl rfl #[.string d,.int .i32 a] w R:=wk Tryz.func294
def oU:Wk N0_ Tryz.f295 295 rfl rfl #[.string d,.func (.func e) f k] w R:=wk Tryz.func295
def kC:Wk ⟨⟨[(2,[(8,.int .i64 0)])],[],[],[],[]⟩,false,[]⟩ Tryz.f307 307 rfl rfl #[.slice b c j,.string d] w R:=wk Tryz.func307
def IN:Wk N0_ Tryz.f308 308 rfl rfl #[.ii a] w R:=wk Tryz.func308
def Bp:Wk ⟨⟨[],[],[1],[],[(1,⟨[0,1,0,4,8,18,0,64,128,288,1023],[2047,2046,2047,2043,2039,2029,2047,1983,1919,1759,1535],[0,1,0,0,1,2,0,0,1,0,0]⟩)]⟩,true,[]⟩ Tryz.f320 320 rfl rfl #[.agg #[.ii a,.ii h,.ii l,.slice b c j,.ii o,.ii q,.ii s,.ii u,.ii v,.ii x],.agg #[.ii y,.ii z,.ii A,.slice i n p,.ii B,.ii C,.ii D,.ii E,.ii F,.ii G]] w R:=wk Tryz.func320
def AG:Wk N1_ Tryz.f317 317 rfl rfl #[.ii a,.ii h] w R:=wk Tryz.func317
def tM:Wk N1_ Tryz.f321 321 rfl rfl #[.ii a] w R:=wk Tryz.func321
def sR:Wk N0_ Tryz.f330 330 rfl rfl #[.string d,.func (.func e) f k] w R:=wk Tryz.func330
def mS:Wk N0_ Tryz.f352 352 rfl rfl #[.int .i32 a] w R:=wk Tryz.func352
def sS:Wk ⟨⟨[(2,[])],[],[],[],[]⟩,false,[]⟩ Tryz.f355 355 rfl rfl #[.string d,.func (.func e) f k,.bool g] w R:=wk Tryz.func355
def pR:Wk N1_ Tryz.f390 390 rfl rfl #[.pointer b] w R:=wk Tryz.func390
def tK:Wk N1_ Tryz.f391 391 rfl rfl #[.pointer b,.ii a] w R:=wk Tryz.func391
def sv:Wk N1_ Tryz.f392 392 rfl rfl #[.pointer b,.ii a,.ii h] w R:=wk Tryz.func392
def sT:Wk ⟨⟨[(3,[(12,.int .i64 0)])],[],[],[],[]⟩,true,[]⟩ Tryz.f393 393 rfl rfl #[.pointer b] w R:=wk Tryz.func393
def xJ:Wk ⟨⟨[(3,[(3,.slice none 0 0)])],[],[],[],[]⟩,true,[16]⟩ Tryz.f394 394 rfl rfl #[.pointer b] w R:=wk Tryz.func394
def gX:Wk N1_ Tryz.f395 395 rfl rfl #[.slice b c j] w R:=wk Tryz.func395
def uz:Wk N1_ Tryz.f397 397 rfl rfl #[.agg #[.ii a,.ii h,.ii l],.agg #[.ii o,.ii q,.ii s]] w R:=wk Tryz.func397
def pU:Wk ⟨⟨[(3,[(19,.int .i64 0)]),(12,[(8,.slice none 0 0),(11,.int .i64 0)])],[],[],[],[]⟩,true,[59]⟩ Tryz.f211 211 rfl rfl #[.pointer b,.pointer i] w R:=wk Tryz.func211
def yu:Wk N0_ Tryz.f305 305 rfl rfl #[.bool g,.ii a] w R:=wk Tryz.func305
def uA:Wk ⟨⟨[],[],[],[],[(1,⟨[0,0,2,4,8,16,0,64,128,256,544,1025,2048],[8191,8191,8189,8187,8183,8175,8191,8127,8063,7935,7647,7166,6143],[0,0,0,0,1,0,0,0,0,1,0,0,2]⟩)]⟩,false,[]⟩ Tryz.f306 306 rfl rfl #[.pointer b,.ii a] w R:=wk Tryz.func306
def Gx:Wk N1_ Tryz.f11 11 rfl rfl #[.agg #[.ii a,.ii h,.ii l,.ii o,.ii q,.ii s,.ii u,.ii v,.slice b c j,.slice i n p,.slice m r t]] w R:=wk Tryz.func11
def Dp:Wk ⟨⟨[(3,[(15,.int .i64 0)])],[],[],[],[]⟩,true,[]⟩ Tryz.f12 12 rfl rfl #[.agg #[.ii a,.ii h,.ii l,.ii o,.ii q,.ii s,.ii u,.ii v,.slice b c j,.slice i n p]] w R:=wk Tryz.func12
def qd:Wk N1_ Tryz.f15 15 rfl rfl #[.pointer b,.ii a] w R:=wk Tryz.func15
def qH:Wk N1_ Tryz.f6 6 rfl rfl #[.pointer b,.agg #[.ii a,.ii h,.ii l,.ii o,.ii q,.ii s,.ii u,.ii v,.ii x,.ii y]] w R:=wk Tryz.func6
def mN:Wk N1_ Tryz.f8 8 rfl rfl #[.pointer b,.ii a] w R:=wk Tryz.func8
def GM:Wk N1_ Tryz.f27 27 rfl rfl #[] w R:=wk Tryz.func27
def nJ:Wk N1_ Tryz.f23 23 rfl rfl #[.pointer b,.ii a] w R:=wk Tryz.func23
def lX:Wk ⟨⟨[],[],[],[],[(1,⟨[0,0,2,4,8,0,32,80,128,128,897,2047],[4095,4095,4093,4091,4087,4095,4063,4015,3967,3967,3326,3071],[0,0,0,0,1,0,1,2,0,0,2,2]⟩)]⟩,true,[]⟩ Tryz.f16 16 rfl rfl #[.pointer b,.agg #[.ii a,.ii h,.ii l,.ii o,.ii q,.ii s,.ii u,.ii v,.ii x,.ii y]] w R:=wk Tryz.func16
def mM:Wk ⟨⟨[],[],[],[],[(1,⟨[0,0,2,4,8,0,32,80,128,128,897,2047],[4095,4095,4093,4091,4087,4095,4063,4015,3967,3967,3326,3071],[0,0,0,0,1,0,1,2,0,0,2,2]⟩)]⟩,true,[]⟩ Tryz.f17 17 rfl rfl #[.pointer b,.agg #[.ii a,.ii h,.ii l,.ii o,.ii q,.ii s,.ii u,.ii v,.ii x,.ii y]] w R:=wk Tryz.func17
def oC:Wk ⟨⟨[],[],[1],[],[(1,⟨[0,1,2,4,0,16,40,64,128,128,0,1535,4095],[8191,8190,8189,8187,8191,8175,8151,8127,8063,8063,8191,6911,7679],[0,0,0,1,0,1,2,0,0,0,2,2,0]⟩)]⟩,true,[]⟩ Tryz.f18 18 rfl rfl #[.pointer b,.agg #[.ii a,.ii h,.ii l,.ii o,.ii q,.ii s,.ii u,.ii v,.ii x,.ii y]] w R:=wk Tryz.func18
def oE:Wk ⟨⟨[(3,[(19,.int .i64 0)])],[],[5],[],[(5,⟨[0,1,2,4,0,0,32,64,128,272,520],[2047,2046,2045,2043,2047,2047,2015,1983,1919,1775,1527],[0,0,0,1,0,0,0,0,1,2,2]⟩)]⟩,true,[]⟩ Tryz.f19 19 rfl rfl #[.pointer b,.agg #[.ii a,.ii h,.ii l,.ii o,.ii q,.ii s,.ii u,.ii v,.ii x,.ii y]] w R:=wk Tryz.func19
def oD:Wk ⟨⟨[],[],[3],[],[(3,⟨[0,1,2,4,0,16,32,64,0,256,640,1024,0,4096,0,16384,32768,65536,141312,262152],[1048575,1048574,1048573,1048571,1048575,1048559,1048543,1048511,1048575,1048319,1047935,1047551,1048575,1044479,1048575,1032191,1015807,983039,907263,786423],[0,0,0,1,0,0,0,1,0,1,0,1,0,1,0,0,0,1,2,2]⟩)]⟩,true,[]⟩ Tryz.f20 20 rfl rfl #[.pointer b,.agg #[.ii a,.ii h,.ii l,.ii o,.ii q,.ii s,.ii u,.ii v,.ii x,.ii y]] w R:=wk Tryz.func20
def qb:Wk ⟨⟨[],[],[1],[],[(1,⟨[0,1,2,4,0,16,40,64,0,256,0,1279,4095],[8191,8190,8189,8187,8191,8175,8151,8127,8191,7935,8191,8063,6655],[0,0,0,1,0,1,0,1,0,1,2,0,2]⟩)]⟩,true,[]⟩ Tryz.f21 21 rfl rfl #[.pointer b,.agg #[.ii a,.ii h,.ii l,.ii o,.ii q,.ii s,.ii u,.ii v,.ii x,.ii y]] w R:=wk Tryz.func21
def AU:Wk N1_ Tryz.f22 22 rfl rfl #[.ii a] w R:=wk Tryz.func22
def nK:Wk ⟨⟨[],[],[],[],[(5,⟨[0,1,2,4,0,16,40,64,0,384,512,1024,1024,4095,16383],[32767,32766,32765,32763,32767,32751,32727,32703,32767,32383,32255,31743,31743,30719,28671],[0,0,0,1,0,1,0,1,1,2,0,0,0,0,0]⟩)]⟩,true,[]⟩ Tryz.f30 30 rfl rfl #[.pointer b,.agg #[.ii a,.ii h,.ii l,.slice i c j,.slice m n p],.bool g] w R:=wk Tryz.func30
def qU:Wk N1_ Tryz.f31 31 rfl rfl #[.pointer b,.ii a] w R:=wk Tryz.func31
def qV:Wk N1_ Tryz.f32 32 rfl rfl #[.pointer b,.ii a] w R:=wk Tryz.func32
def qW:Wk ⟨⟨[(3,[(21,.int .i64 0)])],[],[5],[5],[(5,⟨[0,0,2,4,8,0,32,64,208,511,1023,1535],[4095,4095,4093,4091,4087,4095,4063,4031,3951,4094,3583,2815],[0,0,0,0,1,1,2,2,2,0,0,2]⟩)]⟩,true,[31]⟩ Tryz.f33 33 rfl rfl #[.pointer b,.slice i c j] w R:=wk Tryz.func33
def zS:Wk ⟨⟨[(4,[(15,.int .i64 0)])],[],[6],[],[(6,⟨[0,1,0,0,8,0,48,64,128,256,1023,2047,3071],[8191,8190,8191,8191,8183,8191,8143,8127,8063,7935,8185,7167,5631],[0,1,0,0,1,0,0,0,1,2,0,0,2]⟩)]⟩,true,[]⟩ Tryz.f56 56 rfl rfl #[.agg #[.ii a,.ii h,.ii l,.slice b c j,.slice i n p]] w R:=wk Tryz.func56
def jo:Wk N1_ Tryz.f55 55 rfl rfl #[.slice b c j,.ii a,.ii h] w R:=wk Tryz.func55
def gY:Wk N1_ Tryz.f92 92 rfl rfl #[.slice b c j] w R:=wk Tryz.func92
