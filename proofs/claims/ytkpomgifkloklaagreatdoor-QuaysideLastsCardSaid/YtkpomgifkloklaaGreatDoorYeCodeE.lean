import Derived.Test.YtkpomgifkloklaaGreatDoorYeCodeA
set_option linter.all false
set_option maxRecDepth 100000
namespace Go.Proofs.YtkpomgifkloklaaGreatDoor
open Go.aw
variable {a h l o q s u v x y z A B C D E F G:Int} {b:Bool} {c i m:Option Addr} {d j n p r t:Nat} {e:ByteArray} {f:FuncId} {g k:Array Value}
variable {w:World} {R:Ending->World->Prop}
def Ah:Wk N1_ Tryz.f262 262 rfl rfl #[.ii a] w R:=wk Tryz.func262
def uM:Wk N1_ Tryz.f291 291 rfl rfl #[.agg #[.ii a,.ii h,.bool b,.slice c d j],.ii l,.ii o,.ii q,.ii s] w R:=wk Tryz.func291
def DW:Wk N1_ Tryz.f292 292 rfl rfl #[.agg #[.ii a,.ii h,.ii l,.slice c d j,.ii o,.ii q,.ii s,.ii u,.ii v,.ii x],.agg #[.ii y,.ii z,.ii A,.slice i n p,.ii B,.ii C,.ii D,.ii E,.ii F,.ii G]] w R:=wk Tryz.func292
def Lf:Wk N1_ Tryz.f293 293 rfl rfl #[.ii a,.ii h] w R:=wk Tryz.func293
def nZ:Wk N1_ Tryz.f296 296 rfl rfl #[.slice c d j,.ii a,.ii h] w R:=wk Tryz.func296
def DX:Wk ⟨⟨[(1,[(7,.int .i64 0)])],[],[],[],[]⟩,false,[]⟩ Tryz.f297 297 rfl rfl #[.slice c d j,.pointer (some ⟨n,p,none⟩)] w R:=wk Tryz.func297
def Pn:Wk N0_ Tryz.f299 299 rfl rfl #[.slice c d j] w R:=wk Tryz.func299
def BF:Wk ⟨⟨[(2,[(2,.int .u32 0),(7,.int .i64 0)])],[],[],[],[]⟩,false,[]⟩ Tryz.f314 314 rfl rfl #[.slice c d j] w R:=wk Tryz.func314
def yb:Wk N0_ Tryz.f304 304 rfl rfl #[.int .i32 a] w R:=wk Tryz.func304
def py:Wk N0_ Tryz.f305 305 rfl rfl #[.string e,.int .i32 a] w R:=wk Tryz.func305
def pA:Wk N0_ Tryz.f306 306 rfl rfl #[.string e,.func (.func f) g k] w R:=wk Tryz.func306
def kW:Wk ⟨⟨[(2,[(8,.int .i64 0)])],[],[],[],[]⟩,false,[]⟩ Tryz.f318 318 rfl rfl #[.slice c d j,.string e] w R:=wk Tryz.func318
def Jf:Wk N0_ Tryz.f319 319 rfl rfl #[.ii a] w R:=wk Tryz.func319
def BG:Wk ⟨⟨[],[],[1],[],[(1,⟨[0,1,0,4,8,18,0,64,128,288,1023],[2047,2046,2047,2043,2039,2029,2047,1983,1919,1759,1535],[0,1,0,0,1,2,0,0,1,0,0]⟩)]⟩,true,[]⟩ Tryz.f331 331 rfl rfl #[.agg #[.ii a,.ii h,.ii l,.slice c d j,.ii o,.ii q,.ii s,.ii u,.ii v,.ii x],.agg #[.ii y,.ii z,.ii A,.slice i n p,.ii B,.ii C,.ii D,.ii E,.ii F,.ii G]] w R:=wk Tryz.func331
def AY:Wk N1_ Tryz.f328 328 rfl rfl #[.ii a,.ii h] w R:=wk Tryz.func328
def ua:Wk N1_ Tryz.f332 332 rfl rfl #[.ii a] w R:=wk Tryz.func332
def tk:Wk N0_ Tryz.f341 341 rfl rfl #[.string e,.func (.func f) g k] w R:=wk Tryz.func341
def nq:Wk N0_ Tryz.f363 363 rfl rfl #[.int .i32 a] w R:=wk Tryz.func363
def tl:Wk ⟨⟨[(2,[])],[],[],[],[]⟩,false,[]⟩ Tryz.f366 366 rfl rfl #[.string e,.func (.func f) g k,.bool b] w R:=wk Tryz.func366
def qi:Wk N1_ Tryz.f399 399 rfl rfl #[.pointer c] w R:=wk Tryz.func399
def tZ:Wk N1_ Tryz.f400 400 rfl rfl #[.pointer c,.ii a] w R:=wk Tryz.func400
def sL:Wk N1_ Tryz.f401 401 rfl rfl #[.pointer c,.ii a,.ii h] w R:=wk Tryz.func401
def tm:Wk ⟨⟨[(3,[(12,.int .i64 0)])],[],[],[],[]⟩,true,[]⟩ Tryz.f402 402 rfl rfl #[.pointer c] w R:=wk Tryz.func402
def yd:Wk ⟨⟨[(3,[(3,.slice none 0 0)])],[],[],[],[]⟩,true,[16]⟩ Tryz.f403 403 rfl rfl #[.pointer c] w R:=wk Tryz.func403
def il:Wk N1_ Tryz.f404 404 rfl rfl #[.slice c d j] w R:=wk Tryz.func404
def uN:Wk N1_ Tryz.f406 406 rfl rfl #[.agg #[.ii a,.ii h,.ii l],.agg #[.ii o,.ii q,.ii s]] w R:=wk Tryz.func406
def ql:Wk ⟨⟨[(3,[(19,.int .i64 0)]),(12,[(8,.slice none 0 0),(11,.int .i64 0)])],[],[],[],[]⟩,true,[59]⟩ Tryz.f221 221 rfl rfl #[.pointer c,.pointer i] w R:=wk Tryz.func221
def yJ:Wk N0_ Tryz.f316 316 rfl rfl #[.bool b,.ii a] w R:=wk Tryz.func316
def uO:Wk ⟨⟨[],[],[],[],[(1,⟨[0,0,2,4,8,16,0,64,128,256,544,1025,2048],[8191,8191,8189,8187,8183,8175,8191,8127,8063,7935,7647,7166,6143],[0,0,0,0,1,0,0,0,0,1,0,0,2]⟩)]⟩,false,[]⟩ Tryz.f317 317 rfl rfl #[.pointer c,.ii a] w R:=wk Tryz.func317
def GM:Wk N1_ Tryz.f13 13 rfl rfl #[.agg #[.ii a,.ii h,.ii l,.ii o,.ii q,.ii s,.ii u,.ii v,.slice c d j,.slice i n p,.slice m r t]] w R:=wk Tryz.func13
def DG:Wk ⟨⟨[(3,[(15,.int .i64 0)])],[],[],[],[]⟩,true,[]⟩ Tryz.f14 14 rfl rfl #[.agg #[.ii a,.ii h,.ii l,.ii o,.ii q,.ii s,.ii u,.ii v,.slice c d j,.slice i n p]] w R:=wk Tryz.func14
def qs:Wk N1_ Tryz.f7 7 rfl rfl #[.pointer c,.ii a] w R:=wk Tryz.func7
def ni:Wk N1_ Tryz.f38 38 rfl rfl #[.pointer c] w R:=wk Tryz.func38
def qW:Wk N1_ Tryz.f6 6 rfl rfl #[.pointer c,.agg #[.ii a,.ii h,.ii l,.ii o,.ii q,.ii s,.ii u,.ii v,.ii x,.ii y]] w R:=wk Tryz.func6
def nh:Wk N1_ Tryz.f9 9 rfl rfl #[.pointer c,.ii a] w R:=wk Tryz.func9
def Ha:Wk N1_ Tryz.f33 33 rfl rfl #[] w R:=wk Tryz.func33
def ob:Wk N1_ Tryz.f26 26 rfl rfl #[.pointer c,.ii a] w R:=wk Tryz.func26
def tq:Wk N1_ Tryz.f63 63 rfl rfl #[.pointer c] w R:=wk Tryz.func63
def mu:Wk ⟨⟨[],[],[],[],[(1,⟨[0,0,2,4,8,0,32,80,128,128,897,2047],[4095,4095,4093,4091,4087,4095,4063,4015,3967,3967,3326,3071],[0,0,0,0,1,0,1,2,0,0,2,2]⟩)]⟩,true,[]⟩ Tryz.f19 19 rfl rfl #[.pointer c,.agg #[.ii a,.ii h,.ii l,.ii o,.ii q,.ii s,.ii u,.ii v,.ii x,.ii y]] w R:=wk Tryz.func19
def ng:Wk ⟨⟨[],[],[],[],[(1,⟨[0,0,2,4,8,0,32,80,128,128,897,2047],[4095,4095,4093,4091,4087,4095,4063,4015,3967,3967,3326,3071],[0,0,0,0,1,0,1,2,0,0,2,2]⟩)]⟩,true,[]⟩ Tryz.f20 20 rfl rfl #[.pointer c,.agg #[.ii a,.ii h,.ii l,.ii o,.ii q,.ii s,.ii u,.ii v,.ii x,.ii y]] w R:=wk Tryz.func20
def oU:Wk ⟨⟨[],[],[1],[],[(1,⟨[0,1,2,4,0,16,40,64,128,128,0,1535,4095],[8191,8190,8189,8187,8191,8175,8151,8127,8063,8063,8191,6911,7679],[0,0,0,1,0,1,2,0,0,0,2,2,0]⟩)]⟩,true,[]⟩ Tryz.f21 21 rfl rfl #[.pointer c,.agg #[.ii a,.ii h,.ii l,.ii o,.ii q,.ii s,.ii u,.ii v,.ii x,.ii y]] w R:=wk Tryz.func21
def oW:Wk ⟨⟨[(3,[(19,.int .i64 0)])],[],[5],[],[(5,⟨[0,1,2,4,0,0,32,64,128,272,520],[2047,2046,2045,2043,2047,2047,2015,1983,1919,1775,1527],[0,0,0,1,0,0,0,0,1,2,2]⟩)]⟩,true,[]⟩ Tryz.f22 22 rfl rfl #[.pointer c,.agg #[.ii a,.ii h,.ii l,.ii o,.ii q,.ii s,.ii u,.ii v,.ii x,.ii y]] w R:=wk Tryz.func22
def oV:Wk ⟨⟨[],[],[3],[],[(3,⟨[0,1,2,4,0,16,32,64,0,256,640,1024,0,4096,0,16384,32768,65536,141312,262152],[1048575,1048574,1048573,1048571,1048575,1048559,1048543,1048511,1048575,1048319,1047935,1047551,1048575,1044479,1048575,1032191,1015807,983039,907263,786423],[0,0,0,1,0,0,0,1,0,1,0,1,0,1,0,0,0,1,2,2]⟩)]⟩,true,[]⟩ Tryz.f23 23 rfl rfl #[.pointer c,.agg #[.ii a,.ii h,.ii l,.ii o,.ii q,.ii s,.ii u,.ii v,.ii x,.ii y]] w R:=wk Tryz.func23
def qq:Wk ⟨⟨[],[],[1],[],[(1,⟨[0,1,2,4,0,16,40,64,0,256,0,1279,4095],[8191,8190,8189,8187,8191,8175,8151,8127,8191,7935,8191,8063,6655],[0,0,0,1,0,1,0,1,0,1,2,0,2]⟩)]⟩,true,[]⟩ Tryz.f24 24 rfl rfl #[.pointer c,.agg #[.ii a,.ii h,.ii l,.ii o,.ii q,.ii s,.ii u,.ii v,.ii x,.ii y]] w R:=wk Tryz.func24
def Bl:Wk N1_ Tryz.f25 25 rfl rfl #[.ii a] w R:=wk Tryz.func25
def od:Wk ⟨⟨[],[],[],[],[(5,⟨[0,1,2,4,0,16,40,64,0,384,512,1024,1024,4095,16383],[32767,32766,32765,32763,32767,32751,32727,32703,32767,32383,32255,31743,31743,30719,28671],[0,0,0,1,0,1,0,1,1,2,0,0,0,0,0]⟩)]⟩,true,[]⟩ Tryz.f41 41 rfl rfl #[.pointer c,.agg #[.ii a,.ii h,.ii l,.slice i d j,.slice m n p],.bool b] w R:=wk Tryz.func41
def rp:Wk N1_ Tryz.f42 42 rfl rfl #[.pointer c,.ii a] w R:=wk Tryz.func42
def rq:Wk N1_ Tryz.f43 43 rfl rfl #[.pointer c,.ii a] w R:=wk Tryz.func43
def rr:Wk ⟨⟨[(3,[(21,.int .i64 0)])],[],[5],[5],[(5,⟨[0,0,2,4,8,0,32,64,208,511,1023,1535],[4095,4095,4093,4091,4087,4095,4063,4031,3951,4094,3583,2815],[0,0,0,0,1,1,2,2,2,0,0,2]⟩)]⟩,true,[31]⟩ Tryz.f44 44 rfl rfl #[.pointer c,.slice i d j] w R:=wk Tryz.func44
def Ai:Wk ⟨⟨[(4,[(15,.int .i64 0)])],[],[6],[],[(6,⟨[0,1,0,0,8,0,48,64,128,256,1023,2047,3071],[8191,8190,8191,8191,8183,8191,8143,8127,8063,7935,8185,7167,5631],[0,1,0,0,1,0,0,0,1,2,0,0,2]⟩)]⟩,true,[]⟩ Tryz.f69 69 rfl rfl #[.agg #[.ii a,.ii h,.ii l,.slice c d j,.slice i n p]] w R:=wk Tryz.func69
def jx:Wk N1_ Tryz.f68 68 rfl rfl #[.slice c d j,.ii a,.ii h] w R:=wk Tryz.func68
def im:Wk N1_ Tryz.f104 104 rfl rfl #[.slice c d j] w R:=wk Tryz.func104
def tr:Wk ⟨⟨[(7,[(6,.slice none 0 0),(7,.int .i64 0)]),(11,[(6,.slice none 0 0),(8,.int .i64 0)])],[(15,[]),(18,[])],[],[],[]⟩,true,[]⟩ Tryz.f3 3 rfl rfl #[.agg #[.ii a,.ii h,.ii l,.ii o,.ii q,.ii s,.ii u,.ii v,.slice c d j,.slice i n p,.slice m r t]] w R:=wk Tryz.func3
def Jg:Wk N1_ Tryz.f4 4 rfl rfl #[.agg #[.ii a,.ii h,.ii l,.ii o,.ii q,.ii s,.ii u,.ii v,.slice c d j,.slice i n p,.slice m r t]] w R:=wk Tryz.func4
def Jh:Wk ⟨⟨[],[(7,[(3,.bool false)])],[],[],[]⟩,true,[]⟩ Tryz.f5 5 rfl rfl #[] w R:=wk Tryz.func5
def Po:Wk ⟨⟨[(3,[(4,.int .i64 0),(8,.int .i64 0)])],[],[],[],[]⟩,true,[]⟩ Tryz.f10 10 rfl rfl #[.slice c d j] w R:=wk Tryz.func10
def Pp:Wk ⟨⟨[(2,[(0,.slice none 0 0),(6,.int .i64 0)]),(6,[(7,.bool false),(8,.int .i64 0)])],[(12,[(7,.bool false)])],[],[],[(10,⟨[0,0,3,4,0,0,48,64,136,256],[1023,1023,1020,1019,1023,1023,975,959,887,767],[0,0,0,1,0,0,0,1,2,0]⟩)]⟩,true,[53]⟩ Tryz.f11 11 rfl rfl #[.slice c d j,.slice i n p] w R:=wk Tryz.func11
def Ma:Wk N1_ Tryz.f37 37 rfl rfl #[.ii a,.ii h,.ii l] w R:=wk Tryz.func37
