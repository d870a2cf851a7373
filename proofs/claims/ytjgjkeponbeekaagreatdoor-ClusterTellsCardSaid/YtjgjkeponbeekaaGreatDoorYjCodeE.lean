import Derived.Test.YtjgjkeponbeekaaGreatDoorYjCodeA
set_option linter.all false
set_option maxRecDepth 100000
namespace Go.Proofs.YtjgjkeponbeekaaGreatDoor
open Go.aw
variable {a h l o q s u v x y z A B C D E F G:Int} {b i m:Option Addr} {c j n p r t:Nat} {d:ByteArray} {e:FuncId} {f k:Array Value} {g:Bool}
variable {w:World} {R:Ending->World->Prop}
def KP:Wk N1_ Tryz.f310 310 rfl rfl #[.ii a,.ii h] w R:=wk Tryz.func310
def nU:Wk N1_ Tryz.f313 313 rfl rfl #[.slice b c j,.ii a,.ii h] w R:=wk Tryz.func313
def DP:Wk ⟨⟨[(1,[(7,.int .i64 0)])],[],[],[],[]⟩,false,[]⟩ Tryz.f314 314 rfl rfl #[.slice b c j,.pointer (some ⟨n,p,none⟩)] w R:=wk Tryz.func314
def OV:Wk N0_ Tryz.f285 285 rfl rfl #[.slice b c j] w R:=wk Tryz.func285
def BD:Wk ⟨⟨[(2,[(2,.int .u32 0),(7,.int .i64 0)])],[],[],[],[]⟩,false,[]⟩ Tryz.f284 284 rfl rfl #[.slice b c j] w R:=wk Tryz.func284
def xM:Wk N0_ Tryz.f289 289 rfl rfl #[.int .i32 a] w R:=wk Tryz.func289
def pk:Wk N0_ Tryz.f290 290 rfl rfl #[.string d,.int .i32 a] w R:=wk Tryz.func290
def pq:Wk N0_ Tryz.f291 291 rfl rfl #[.string d,.func (.func e) f k] w R:=wk Tryz.func291
def kK:Wk ⟨⟨[(2,[(8,.int .i64 0)])],[],[],[],[]⟩,false,[]⟩ Tryz.f292 292 rfl rfl #[.slice b c j,.string d] w R:=wk Tryz.func292
def IW:Wk N0_ Tryz.f293 293 rfl rfl #[.ii a] w R:=wk Tryz.func293
def BE:Wk ⟨⟨[],[],[1],[],[(1,⟨[0,1,0,4,8,18,0,64,128,288,1023],[2047,2046,2047,2043,2039,2029,2047,1983,1919,1759,1535],[0,1,0,0,1,2,0,0,1,0,0]⟩)]⟩,true,[]⟩ Tryz.f340 340 rfl rfl #[.agg #[.ii a,.ii h,.ii l,.slice b c j,.ii o,.ii q,.ii s,.ii u,.ii v,.ii x],.agg #[.ii y,.ii z,.ii A,.slice i n p,.ii B,.ii C,.ii D,.ii E,.ii F,.ii G]] w R:=wk Tryz.func340
def AU:Wk N1_ Tryz.f337 337 rfl rfl #[.ii a,.ii h] w R:=wk Tryz.func337
def tU:Wk N1_ Tryz.f341 341 rfl rfl #[.ii a] w R:=wk Tryz.func341
def te:Wk N0_ Tryz.f327 327 rfl rfl #[.string d,.func (.func e) f k] w R:=wk Tryz.func327
def nq:Wk N0_ Tryz.f359 359 rfl rfl #[.int .i32 a] w R:=wk Tryz.func359
def tf:Wk ⟨⟨[(2,[])],[],[],[],[]⟩,false,[]⟩ Tryz.f362 362 rfl rfl #[.string d,.func (.func e) f k,.bool g] w R:=wk Tryz.func362
def p_:Wk N1_ Tryz.f400 400 rfl rfl #[.pointer b] w R:=wk Tryz.func400
def tS:Wk N1_ Tryz.f401 401 rfl rfl #[.pointer b,.ii a] w R:=wk Tryz.func401
def sI:Wk N1_ Tryz.f402 402 rfl rfl #[.pointer b,.ii a,.ii h] w R:=wk Tryz.func402
def tg:Wk ⟨⟨[(3,[(12,.int .i64 0)])],[],[],[],[]⟩,true,[]⟩ Tryz.f403 403 rfl rfl #[.pointer b] w R:=wk Tryz.func403
def xN:Wk ⟨⟨[(3,[(3,.slice none 0 0)])],[],[],[],[]⟩,true,[16]⟩ Tryz.f404 404 rfl rfl #[.pointer b] w R:=wk Tryz.func404
def il:Wk N1_ Tryz.f405 405 rfl rfl #[.slice b c j] w R:=wk Tryz.func405
def uH:Wk N1_ Tryz.f407 407 rfl rfl #[.agg #[.ii a,.ii h,.ii l],.agg #[.ii o,.ii q,.ii s]] w R:=wk Tryz.func407
def qe:Wk ⟨⟨[(3,[(19,.int .i64 0)]),(12,[(8,.slice none 0 0),(11,.int .i64 0)])],[],[],[],[]⟩,true,[59]⟩ Tryz.f247 247 rfl rfl #[.pointer b,.pointer i] w R:=wk Tryz.func247
def yy:Wk N0_ Tryz.f287 287 rfl rfl #[.bool g,.ii a] w R:=wk Tryz.func287
def uI:Wk ⟨⟨[],[],[],[],[(1,⟨[0,0,2,4,8,16,0,64,128,256,544,1025,2048],[8191,8191,8189,8187,8183,8175,8191,8127,8063,7935,7647,7166,6143],[0,0,0,0,1,0,0,0,0,1,0,0,2]⟩)]⟩,false,[]⟩ Tryz.f288 288 rfl rfl #[.pointer b,.ii a] w R:=wk Tryz.func288
def GA:Wk N1_ Tryz.f7 7 rfl rfl #[.agg #[.ii a,.ii h,.ii l,.ii o,.ii q,.ii s,.ii u,.ii v,.slice b c j,.slice i n p,.slice m r t]] w R:=wk Tryz.func7
def Dx:Wk ⟨⟨[(3,[(15,.int .i64 0)])],[],[],[],[]⟩,true,[]⟩ Tryz.f9 9 rfl rfl #[.agg #[.ii a,.ii h,.ii l,.ii o,.ii q,.ii s,.ii u,.ii v,.slice b c j,.slice i n p]] w R:=wk Tryz.func9
def qi:Wk N1_ Tryz.f10 10 rfl rfl #[.pointer b,.ii a] w R:=wk Tryz.func10
def qj:Wk N1_ Tryz.f11 11 rfl rfl #[.pointer b] w R:=wk Tryz.func11
def nj:Wk N1_ Tryz.f12 12 rfl rfl #[.pointer b] w R:=wk Tryz.func12
def qQ:Wk N1_ Tryz.f13 13 rfl rfl #[.pointer b,.agg #[.ii a,.ii h,.ii l,.ii o,.ii q,.ii s,.ii u,.ii v,.ii x,.ii y]] w R:=wk Tryz.func13
def IX:Wk N1_ Tryz.f25 25 rfl rfl #[.ii a,.ii h] w R:=wk Tryz.func25
def GS:Wk N1_ Tryz.f26 26 rfl rfl #[] w R:=wk Tryz.func26
def nW:Wk N1_ Tryz.f27 27 rfl rfl #[.pointer b,.ii a] w R:=wk Tryz.func27
def th:Wk N1_ Tryz.f28 28 rfl rfl #[.pointer b] w R:=wk Tryz.func28
def mr:Wk ⟨⟨[],[],[],[],[(1,⟨[0,0,2,4,8,0,32,80,128,128,897,2047],[4095,4095,4093,4091,4087,4095,4063,4015,3967,3967,3326,3071],[0,0,0,0,1,0,1,2,0,0,2,2]⟩)]⟩,true,[]⟩ Tryz.f29 29 rfl rfl #[.pointer b,.agg #[.ii a,.ii h,.ii l,.ii o,.ii q,.ii s,.ii u,.ii v,.ii x,.ii y]] w R:=wk Tryz.func29
def ni:Wk ⟨⟨[],[],[],[],[(1,⟨[0,0,2,4,8,0,32,80,128,128,897,2047],[4095,4095,4093,4091,4087,4095,4063,4015,3967,3967,3326,3071],[0,0,0,0,1,0,1,2,0,0,2,2]⟩)]⟩,true,[]⟩ Tryz.f30 30 rfl rfl #[.pointer b,.agg #[.ii a,.ii h,.ii l,.ii o,.ii q,.ii s,.ii u,.ii v,.ii x,.ii y]] w R:=wk Tryz.func30
def oP:Wk ⟨⟨[],[],[1],[],[(1,⟨[0,1,2,4,0,16,40,64,128,128,0,1535,4095],[8191,8190,8189,8187,8191,8175,8151,8127,8063,8063,8191,6911,7679],[0,0,0,1,0,1,2,0,0,0,2,2,0]⟩)]⟩,true,[]⟩ Tryz.f31 31 rfl rfl #[.pointer b,.agg #[.ii a,.ii h,.ii l,.ii o,.ii q,.ii s,.ii u,.ii v,.ii x,.ii y]] w R:=wk Tryz.func31
def oR:Wk ⟨⟨[(3,[(19,.int .i64 0)])],[],[5],[],[(5,⟨[0,1,2,4,0,0,32,64,128,272,520],[2047,2046,2045,2043,2047,2047,2015,1983,1919,1775,1527],[0,0,0,1,0,0,0,0,1,2,2]⟩)]⟩,true,[]⟩ Tryz.f32 32 rfl rfl #[.pointer b,.agg #[.ii a,.ii h,.ii l,.ii o,.ii q,.ii s,.ii u,.ii v,.ii x,.ii y]] w R:=wk Tryz.func32
def oQ:Wk ⟨⟨[],[],[3],[],[(3,⟨[0,1,2,4,0,16,32,64,0,256,640,1024,0,4096,0,16384,32768,65536,141312,262152],[1048575,1048574,1048573,1048571,1048575,1048559,1048543,1048511,1048575,1048319,1047935,1047551,1048575,1044479,1048575,1032191,1015807,983039,907263,786423],[0,0,0,1,0,0,0,1,0,1,0,1,0,1,0,0,0,1,2,2]⟩)]⟩,true,[]⟩ Tryz.f33 33 rfl rfl #[.pointer b,.agg #[.ii a,.ii h,.ii l,.ii o,.ii q,.ii s,.ii u,.ii v,.ii x,.ii y]] w R:=wk Tryz.func33
def qh:Wk ⟨⟨[],[],[1],[],[(1,⟨[0,1,2,4,0,16,40,64,0,256,0,1279,4095],[8191,8190,8189,8187,8191,8175,8151,8127,8191,7935,8191,8063,6655],[0,0,0,1,0,1,0,1,0,1,2,0,2]⟩)]⟩,true,[]⟩ Tryz.f34 34 rfl rfl #[.pointer b,.agg #[.ii a,.ii h,.ii l,.ii o,.ii q,.ii s,.ii u,.ii v,.ii x,.ii y]] w R:=wk Tryz.func34
def Bj:Wk N1_ Tryz.f35 35 rfl rfl #[.ii a] w R:=wk Tryz.func35
def nX:Wk ⟨⟨[],[],[],[],[(5,⟨[0,1,2,4,0,16,40,64,0,384,512,1024,1024,4095,16383],[32767,32766,32765,32763,32767,32751,32727,32703,32767,32383,32255,31743,31743,30719,28671],[0,0,0,1,0,1,0,1,1,2,0,0,0,0,0]⟩)]⟩,true,[]⟩ Tryz.f61 61 rfl rfl #[.pointer b,.agg #[.ii a,.ii h,.ii l,.slice i c j,.slice m n p],.bool g] w R:=wk Tryz.func61
def ri:Wk N1_ Tryz.f62 62 rfl rfl #[.pointer b,.ii a] w R:=wk Tryz.func62
def rk:Wk N1_ Tryz.f63 63 rfl rfl #[.pointer b,.ii a] w R:=wk Tryz.func63
def rl:Wk ⟨⟨[(3,[(21,.int .i64 0)])],[],[5],[5],[(5,⟨[0,0,2,4,8,0,32,64,208,511,1023,1535],[4095,4095,4093,4091,4087,4095,4063,4031,3951,4094,3583,2815],[0,0,0,0,1,1,2,2,2,0,0,2]⟩)]⟩,true,[31]⟩ Tryz.f64 64 rfl rfl #[.pointer b,.slice i c j] w R:=wk Tryz.func64
def Ac:Wk ⟨⟨[(4,[(15,.int .i64 0)])],[],[6],[],[(6,⟨[0,1,0,0,8,0,48,64,128,256,1023,2047,3071],[8191,8190,8191,8191,8183,8191,8143,8127,8063,7935,8185,7167,5631],[0,1,0,0,1,0,0,0,1,2,0,0,2]⟩)]⟩,true,[]⟩ Tryz.f96 96 rfl rfl #[.agg #[.ii a,.ii h,.ii l,.slice b c j,.slice i n p]] w R:=wk Tryz.func96
def jt:Wk N1_ Tryz.f95 95 rfl rfl #[.slice b c j,.ii a,.ii h] w R:=wk Tryz.func95
def im:Wk N1_ Tryz.f156 156 rfl rfl #[.slice b c j] w R:=wk Tryz.func156
