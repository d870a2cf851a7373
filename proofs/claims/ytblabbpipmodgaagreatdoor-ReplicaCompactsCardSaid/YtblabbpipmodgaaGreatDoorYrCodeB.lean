import Derived.Test.YtblabbpipmodgaaGreatDoorYrCodeA
set_option linter.all false
set_option maxRecDepth 100000
namespace Go.Proofs.YtblabbpipmodgaaGreatDoor
open Go.aw
variable {a e i l o r u x z B D F H I J K L M:Int} {b f j m p s:Option Addr} {c g k n q t v y A C E G:Nat} {d h:Bool}
variable {w:World} {R:Ending->World->Prop}
def Fw:Wk ⟨⟨[(3,[(5,.int .i64 0),(6,.int .i64 0)])],[(8,[(5,.int .i64 0)])],[],[],[]⟩,true,[]⟩ Tryz.f9 9 rfl rfl #[.agg #[.ii a,.ii e,.ii i,.ii l,.ii o,.ii r,.ii u,.ii x,.slice b c g,.slice f k n],.slice j q t] w R:=wk Tryz.func9
def Cy:Wk N1_ Tryz.f10 10 rfl rfl #[] w R:=wk Tryz.func10
def Cz:Wk ⟨⟨[],[],[10],[],[(10,⟨[0,0,0,0,8,16,0,64,160,295,512,2047],[4095,4095,4095,4095,4087,4079,4095,4031,3967,3800,3583,3071],[1,0,0,0,1,2,0,1,2,0,2,0]⟩)]⟩,true,[34]⟩ Tryz.f11 11 rfl rfl #[.agg #[.ii a,.ii e,.ii i,.ii l,.ii o,.ii r,.ii u,.ii x,.slice b c g,.slice f k n],.ii z] w R:=wk Tryz.func11
def Am:Wk N1_ Tryz.f12 12 rfl rfl #[.agg #[.ii a,.ii e,.ii i,.ii l,.ii o,.ii r,.ii u,.ii x,.slice b c g,.slice f k n]] w R:=wk Tryz.func12
def Fy:Wk ⟨⟨[],[],[5],[],[]⟩,true,[14]⟩ Tryz.f20 20 rfl rfl #[.pointer b,.agg #[.ii a,.ii e,.ii i,.ii l,.ii o,.ii r,.ii u,.ii x,.ii z,.ii B,.ii D,.ii F,.ii H,.slice f c g,.slice j k n]] w R:=wk Tryz.func20
def lP:Wk N1_ Tryz.f14 14 rfl rfl #[.pointer b] w R:=wk Tryz.func14
def oZ:Wk N1_ Tryz.f23 23 rfl rfl #[.pointer b] w R:=wk Tryz.func23
def lj:Wk ⟨⟨[],[(5,[(6,.pointer (some ⟨0,0,none⟩)),(7,.bool false),(8,.int .i64 0)]),(7,[(8,.int .i64 0)])],[3,4],[],[(3,⟨[0,1,2,4,8,0,32,64,128,256,528,2047],[4095,4094,4093,4091,4087,4095,4063,4031,3967,3839,3567,3071],[0,0,0,0,1,0,0,0,1,2,2,0]⟩),(4,⟨[0,1,2,4,8,0,32,64,128,0,0,1024,2048,4096,0,16384,32768,65536,131072,0,795408,1048576,2097152,2097152,2097152,0,41943039,117440511,268435455],[536870911,536870910,536870909,536870907,536870903,536870911,536870879,536870847,536870783,536870911,536870911,536869887,536868863,536866815,536870911,536854527,536838143,536805375,536739839,536870911,536075503,535822335,534773759,534773759,534773759,536870911,499122175,528482303,520093695],[0,0,0,0,1,0,0,0,1,0,0,0,0,1,0,0,0,0,1,1,2,0,0,0,0,2,2,0,0]⟩)]⟩,true,[57]⟩ Tryz.f13 13 rfl rfl #[.pointer b,.agg #[.ii a,.ii e,.ii i,.ii l,.ii o,.ii r,.ii u]] w R:=wk Tryz.func13
def wg:Wk ⟨⟨[(4,[(5,.int .i64 0)])],[],[],[],[(6,⟨[0,0,3,4,0,0,48,64,136,256],[1023,1023,1020,1019,1023,1023,975,959,887,767],[0,0,0,1,0,0,0,1,2,0]⟩)]⟩,false,[]⟩ Tryz.f18 18 rfl rfl #[.slice b c g,.slice f k n] w R:=wk Tryz.func18
def Fz:Wk N1_ Tryz.f27 27 rfl rfl #[.agg #[.ii a,.ii e,.ii i,.slice b c g,.slice f k n]] w R:=wk Tryz.func27
def FA:Wk ⟨⟨[(4,[(3,.int .i64 0)]),(9,[(4,.int .i64 0)])],[],[],[],[]⟩,true,[]⟩ Tryz.f28 28 rfl rfl #[.agg #[.slice b c g,.slice f k n]] w R:=wk Tryz.func28
def CA:Wk N1_ Tryz.f8 8 rfl rfl #[.ii a] w R:=wk Tryz.func8
def Hy:Wk N1_ Tryz.f29 29 rfl rfl #[.ii a,.ii e] w R:=wk Tryz.func29
def o_:Wk N1_ Tryz.f30 30 rfl rfl #[.pointer b,.ii a,.ii e] w R:=wk Tryz.func30
def FB:Wk ⟨⟨[(5,[(11,.slice none 0 0),(12,.int .i64 0)])],[(12,[(14,.pointer none)])],[],[],[]⟩,true,[]⟩ Tryz.f31 31 rfl rfl #[.pointer b,.pointer f,.ii a,.ii e,.ii i] w R:=wk Tryz.func31
def Ao:Wk ⟨⟨[(4,[(5,.int .i64 0)])],[],[],[],[]⟩,false,[]⟩ Tryz.f22 22 rfl rfl #[.slice b c g,.slice f k n] w R:=wk Tryz.func22
def Ap:Wk ⟨⟨[(4,[(16,.int .i64 0)]),(7,[(23,.int .i64 0)]),(15,[(38,.int .i64 0)])],[],[],[],[]⟩,true,[]⟩ Tryz.f32 32 rfl rfl #[.agg #[.slice b c g,.slice f k n]] w R:=wk Tryz.func32
def yx:Wk N1_ Tryz.f33 33 rfl rfl #[.agg #[.ii a,.ii e,.ii i,.ii l,.ii o,.ii r,.ii u,.ii x,.slice b c g,.slice f k n],.ii z] w R:=wk Tryz.func33
def Hz:Wk N0_ Tryz.f34 34 rfl rfl #[.ii a] w R:=wk Tryz.func34
def wh:Wk ⟨⟨[(3,[(17,.int .i64 0)]),(7,[(26,.int .i64 0)])],[],[],[],[]⟩,true,[38]⟩ Tryz.f35 35 rfl rfl #[.agg #[.slice b c g,.slice f k n]] w R:=wk Tryz.func35
def EV:Wk N1_ Tryz.f36 36 rfl rfl #[.ii a] w R:=wk Tryz.func36
def CB:Wk N1_ Tryz.f37 37 rfl rfl #[.ii a] w R:=wk Tryz.func37
def lk:Wk ⟨⟨[(7,[(54,.int .i64 0)])],[],[1,11],[1],[(1,⟨[0,0,0,4,8,16,32,64,0,256,512,1024,2048,0,8192,16384,32768,65536,135296,397565,921853,1446141,4194303,8388607,12582911],[33554431,33554431,33554431,33554427,33554423,33554415,33554399,33554367,33554431,33554175,33553919,33553407,33552383,33554431,33546239,33538047,33521663,33488895,33419263,33554430,33030143,32505727,33554429,29360127,24903679],[0,0,0,0,0,0,1,2,0,0,0,0,1,0,0,0,0,1,2,0,0,2,0,0,2]⟩),(2,⟨[0,1,2,4,0,16,32,64,128,264,512,1024,1024,1024,4095,24575,65535],[131071,131070,131069,131067,131071,131055,131039,131007,130943,130807,130559,130047,130047,130047,129023,126975,122879],[0,0,0,1,0,0,0,0,1,2,0,0,0,0,0,0,0]⟩),(11,⟨[0,1,2,4,0,16,32,64,128,264],[1023,1022,1021,1019,1023,1007,991,959,895,759],[0,0,0,1,0,0,0,1,2,2]⟩)]⟩,true,[]⟩ Tryz.f38 38 rfl rfl #[.pointer b] w R:=wk Tryz.func38
def Aq:Wk ⟨⟨[(3,[(4,.int .i64 0)]),(7,[(6,.int .i64 0)]),(12,[(7,.int .i64 0)])],[],[9,14],[9,14],[(9,⟨[0,1,0,4,0,24,32,64,0,384,512,1024,2048,6146,16383,32767],[65535,65534,65535,65531,65535,65511,65503,65471,65535,65151,65023,64511,63487,61437,65535,40959],[0,1,0,1,0,0,0,1,0,0,1,2,2,2,0,2]⟩),(14,⟨[0,1,0,4,0,24,32,64,130,511,1023],[2047,2046,2047,2043,2047,2023,2015,1983,1917,2047,1279],[0,1,0,1,0,0,1,2,2,0,2]⟩)]⟩,true,[38,61]⟩ Tryz.f39 39 rfl rfl #[.agg #[.slice b c g,.slice f k n]] w R:=wk Tryz.func39
def ky:Wk ⟨⟨[],[],[],[],[(4,⟨[0,1,2,4,0,16,32,64,0,392,512,2047],[4095,4094,4093,4091,4095,4079,4063,4031,4095,3703,3583,3071],[0,0,0,1,0,0,0,1,0,2,2,0]⟩)]⟩,true,[42]⟩ Tryz.f55 55 rfl rfl #[.pointer b,.ii a,.ii e] w R:=wk Tryz.func55
def JX:Wk N1_ Tryz.f56 56 rfl rfl #[.ii a] w R:=wk Tryz.func56
def ll:Wk ⟨⟨[],[],[10],[],[(3,⟨[0,0,2,4,8,16,0,64,128,256,512,1057,4095],[8191,8191,8189,8187,8183,8175,8191,8127,8063,7935,7679,7134,6143],[1,0,0,0,0,1,0,0,0,0,1,2,0]⟩),(10,⟨[0,1,2,4,0,16,0,64,0,256,512,1024,2048,4264],[16383,16382,16381,16379,16383,16367,16383,16319,16383,16127,15871,15359,14335,12119],[0,0,0,1,0,1,0,1,0,0,0,1,2,2]⟩),(12,⟨[0,1,2,4,0,16,32,64,0,0,512,1024,2048,4096,8584,32767,65535],[131071,131070,131069,131067,131071,131055,131039,131007,131071,131071,130559,130047,129023,126975,122487,114687,131071],[0,0,0,1,0,0,0,1,1,0,0,0,0,1,2,0,0]⟩),(13,⟨[0,1,2,4,0,16,0,64,128,256,512,1064,4095],[8191,8190,8189,8187,8191,8175,8191,8127,8063,7935,7679,7127,6143],[0,0,0,1,0,1,0,0,0,0,1,2,0]⟩),(15,⟨[0,1,2,4,0,16,0,104,128,511,1023],[2047,2046,2045,2043,2047,2031,2047,1943,1919,1791,2047],[0,0,0,1,0,1,0,0,2,0,0]⟩)]⟩,true,[]⟩ Tryz.f17 17 rfl rfl #[.pointer b,.agg #[.ii a,.ii e,.ii i,.slice f c g,.slice j k n]] w R:=wk Tryz.func17
def CC:Wk N1_ Tryz.f57 57 rfl rfl #[.agg #[.ii a,.ii e,.ii i,.slice b c g,.slice f k n]] w R:=wk Tryz.func57
def nK:Wk ⟨⟨[(3,[(5,.slice none 0 0),(15,.int .i64 0)])],[],[],[],[(5,⟨[0,0,2,4,8,0,32,64,128,0,784,1024,3073,8191],[16383,16383,16381,16379,16375,16383,16351,16319,16255,16383,15599,15359,14334,12286],[0,0,0,0,1,0,0,0,1,0,2,2,2,0]⟩)]⟩,true,[29]⟩ Tryz.f58 58 rfl rfl #[.pointer b,.ii a] w R:=wk Tryz.func58
def mO:Wk N1_ Tryz.f25 25 rfl rfl #[.pointer b,.ii a] w R:=wk Tryz.func25
def nN:Wk N1_ Tryz.f59 59 rfl rfl #[.pointer b,.ii a] w R:=wk Tryz.func59
def lq:Wk ⟨⟨[],[],[3],[],[(3,⟨[0,1,2,4,0,16,32,64,0,256,512,1024,2048,0,8192,16384,32768,65536,135304,262144,524288,524288,2097151,8388607],[16777215,16777214,16777213,16777211,16777215,16777199,16777183,16777151,16777215,16776959,16776703,16776191,16775167,16777215,16769023,16760831,16744447,16711679,16641911,16515071,16252927,16252927,15728639,14680063],[0,0,0,1,0,0,0,1,0,0,0,1,2,0,0,0,0,1,2,0,0,0,0,0]⟩)]⟩,true,[]⟩ Tryz.f24 24 rfl rfl #[.pointer b] w R:=wk Tryz.func24
def wi:Wk N1_ Tryz.f41 41 rfl rfl #[.pointer b] w R:=wk Tryz.func41
def wj:Wk N1_ Tryz.f48 48 rfl rfl #[.pointer b] w R:=wk Tryz.func48
def JY:Wk ⟨⟨[(3,[(12,.int .i64 0)])],[],[],[],[]⟩,true,[]⟩ Tryz.f40 40 rfl rfl #[.agg #[.slice b c g,.slice f k n],.slice j q t] w R:=wk Tryz.func40
def yy:Wk ⟨⟨[(13,[(68,.int .i64 0)])],[(11,[]),(20,[(25,.pointer (some ⟨0,0,none⟩)),(26,.int .i64 0)])],[19],[],[(19,⟨[0,0,0,4,0,24,0,96,171,256,512,512,0,6143,16383],[32767,32767,32767,32763,32767,32751,32767,32671,32628,32511,32255,32255,32767,27647,30719],[1,0,0,2,0,2,0,0,2,0,0,0,2,2,0]⟩)]⟩,true,[]⟩ Tryz.f42 42 rfl rfl #[.agg #[.slice b c g,.slice f k n],.pointer j,.pointer m,.ii a,.ii e,.agg #[.ii i,.ii l,.ii o,.ii r,.ii u,.ii x,.ii z]] w R:=wk Tryz.func42
def nP:Wk ⟨⟨[],[],[8],[],[(8,⟨[0,1,2,4,0,16,32,64,128,264],[1023,1022,1021,1019,1023,1007,991,959,895,759],[0,0,0,1,0,0,0,1,2,2]⟩)]⟩,true,[]⟩ Tryz.f43 43 rfl rfl #[.pointer b,.slice f c g] w R:=wk Tryz.func43
def yz:Wk N0_ Tryz.f51 51 rfl rfl #[.agg #[.ii a,.ii e,.ii i,.slice b c g,.ii l,.ii o,.ii r,.ii u,.ii x,.ii z],.agg #[.ii B,.ii D,.ii F,.slice f k n,.ii H,.ii I,.ii J,.ii K,.ii L,.ii M]] w R:=wk Tryz.func51
def wm:Wk N1_ Tryz.f52 52 rfl rfl #[.agg #[.ii a,.ii e,.ii i,.ii l,.slice b c g,.slice f k n,.slice j q t,.bool d],.agg #[.ii o,.ii r,.ii u,.ii x,.slice m v y,.slice p A C,.slice s E G,.bool h]] w R:=wk Tryz.func52
def lQ:Wk N1_ Tryz.f53 53 rfl rfl #[.pointer b,.ii a,.ii e,.ii i] w R:=wk Tryz.func53
def mP:Wk N1_ Tryz.f54 54 rfl rfl #[.pointer b,.ii a,.ii e] w R:=wk Tryz.func54
def FC:Wk ⟨⟨[(2,[(3,.int .i64 0)])],[],[],[],[]⟩,false,[]⟩ Tryz.f65 65 rfl rfl #[.slice b c g] w R:=wk Tryz.func65
def FD:Wk N1_ Tryz.f26 26 rfl rfl #[] w R:=wk Tryz.func26
def nQ:Wk N1_ Tryz.f66 66 rfl rfl #[.pointer b] w R:=wk Tryz.func66
def CD:Wk ⟨⟨[(4,[(22,.int .i64 0)]),(9,[(34,.int .i64 0)])],[],[],[],[]⟩,true,[]⟩ Tryz.f67 67 rfl rfl #[.agg #[.slice b c g,.slice f k n]] w R:=wk Tryz.func67
def Ar:Wk ⟨⟨[],[(5,[])],[],[],[(3,⟨[0,1,2,4,12,16,48,80,144,16,528,1296,2064,4112,8208,16400,32768,98304,163840,262144,786432,1310720,2392064,4227072],[16777215,16777214,16777213,16777211,16777207,16777199,16777167,16777135,16777071,16777199,16776687,16775919,16775151,16773103,16769007,16760831,16744447,16678911,16613375,16515071,15990783,15466495,14385151,12550143],[0,1,2,0,0,0,1,0,1,0,1,0,0,0,0,0,0,1,0,0,1,0,0,0]⟩)]⟩,true,[]⟩ Tryz.f68 68 rfl rfl #[.agg #[.slice b c g],.agg #[.ii a,.ii e,.bool d,.slice f k n]] w R:=wk Tryz.func68
def As:Wk ⟨⟨[],[(6,[(19,.bool false)])],[],[],[(4,⟨[0,1,2,4,8,24,8,72,168,264,8,1032,2568,4104,8200,20480],[65535,65534,65533,65531,65527,65511,65527,65463,65367,65271,65527,64503,62967,61431,57335,49151],[0,1,0,0,0,1,0,1,0,1,0,1,2,0,0,0]⟩)]⟩,true,[]⟩ Tryz.f69 69 rfl rfl #[.agg #[.slice b c g,.slice f k n],.agg #[.ii a,.ii e,.ii i,.ii l,.ii o]] w R:=wk Tryz.func69
def ur:Wk N1_ Tryz.f70 70 rfl rfl #[.ii a,.ii e,.ii i] w R:=wk Tryz.func70
def Au:Wk N1_ Tryz.f71 71 rfl rfl #[.agg #[.slice b c g,.slice f k n],.ii a,.ii e] w R:=wk Tryz.func71
def FE:Wk N1_ Tryz.f72 72 rfl rfl #[.ii a] w R:=wk Tryz.func72
def ER:Wk ⟨⟨[(3,[(23,.int .i64 0)]),(7,[(32,.int .i64 0)]),(15,[(75,.int .i64 0)])],[],[17],[17],[(17,⟨[0,0,2,4,8,16,0,64,128,416,1023,2047,3071,5119],[16383,16383,16381,16379,16375,16367,16383,16319,16255,16095,16382,15359,14335,11775],[0,0,0,0,0,1,1,2,2,2,0,0,0,2]⟩)]⟩,true,[]⟩ Tryz.f73 73 rfl rfl #[.agg #[.slice b c g,.slice f k n],.ii a] w R:=wk Tryz.func73
def CE:Wk ⟨⟨[],[(9,[(11,.int .i64 0)])],[],[],[]⟩,false,[]⟩ Tryz.f74 74 rfl rfl #[.pointer b,.ii a] w R:=wk Tryz.func74
def wo:Wk ⟨⟨[(10,[(49,.int .i64 0)])],[],[4,15],[],[(4,⟨[0,1,2,4,0,16,40,64,128,128,0,1535,4095],[8191,8190,8189,8187,8191,8175,8151,8127,8063,8063,8191,6911,7679],[0,0,0,1,0,1,1,0,0,0,2,2,0]⟩),(16,⟨[0,1,2,4,0,16,32,72,128,256,1023,2047],[4095,4094,4093,4091,4095,4079,4063,4023,3967,3839,4023,2559],[0,0,0,1,0,0,1,0,1,0,0,2]⟩),(17,⟨[0,0,2,4,8,0,32,80,255,511,767],[2047,2047,2045,2043,2039,2047,2015,1967,2046,1791,1407],[0,0,0,0,1,0,1,0,0,0,2]⟩)]⟩,true,[]⟩ Tryz.f75 75 rfl rfl #[.pointer b,.agg #[.ii a,.ii e,.ii i,.slice f c g,.ii l,.ii o,.ii r,.ii u,.ii x,.ii z]] w R:=wk Tryz.func75
def pJ:Wk ⟨⟨[(2,[(5,.int .i64 0)]),(8,[(56,.int .i64 0)])],[(4,[(5,.int .i64 0)]),(6,[])],[],[],[]⟩,true,[]⟩ Tryz.f76 76 rfl rfl #[.pointer b,.slice f c g] w R:=wk Tryz.func76
def yA:Wk ⟨⟨[(3,[(3,.slice none 0 0),(4,.int .i64 0)])],[],[],[],[]⟩,true,[17]⟩ Tryz.f77 77 rfl rfl #[.agg #[.ii a,.ii e,.bool d,.slice b c g]] w R:=wk Tryz.func77
def pf:Wk N1_ Tryz.f111 111 rfl rfl #[.pointer b,.ii a,.ii e] w R:=wk Tryz.func111
def CF:Wk N1_ Tryz.f112 112 rfl rfl #[.pointer b,.ii a,.ii e] w R:=wk Tryz.func112
def JZ:Wk N0_ Tryz.f16 16 rfl rfl #[.ii a,.ii e] w R:=wk Tryz.func16
def HA:Wk ⟨⟨[],[(3,[(8,.bool false)])],[],[],[]⟩,true,[]⟩ Tryz.f45 45 rfl rfl #[.agg #[.ii a,.ii e,.ii i,.slice b c g,.slice f k n],.ii l,.ii o] w R:=wk Tryz.func45
def mQ:Wk ⟨⟨[],[(7,[])],[],[],[(7,⟨[0,1,2,4,0,16,32,64,0,256,648,1024,4095,8191],[16383,16382,16381,16379,16383,16367,16351,16319,16383,16127,15735,15359,14335,16383],[0,0,0,1,0,0,0,1,0,1,2,2,0,0]⟩)]⟩,true,[36]⟩ Tryz.f46 46 rfl rfl #[.pointer b,.agg #[.ii a,.ii e,.ii i,.slice f c g,.slice j k n]] w R:=wk Tryz.func46
def pg:Wk ⟨⟨[],[(7,[])],[],[],[]⟩,true,[]⟩ Tryz.f47 47 rfl rfl #[.pointer b,.ii a,.slice f c g,.slice j k n] w R:=wk Tryz.func47
def CG:Wk ⟨⟨[],[(3,[]),(7,[(9,.slice none 0 0)]),(11,[(9,.slice none 0 0)])],[],[],[]⟩,true,[66]⟩ Tryz.f49 49 rfl rfl #[.pointer b,.ii a,.agg #[.ii e,.ii i,.ii l,.slice f c g,.slice j k n],.ii o] w R:=wk Tryz.func49
def qd:Wk N1_ Tryz.f50 50 rfl rfl #[.pointer b,.slice f c g,.ii a] w R:=wk Tryz.func50
def Av:Wk ⟨⟨[(3,[(3,.slice none 0 0),(4,.int .i64 0)])],[],[],[],[]⟩,false,[]⟩ Tryz.f94 94 rfl rfl #[.slice b c g] w R:=wk Tryz.func94
def wq:Wk ⟨⟨[(3,[(3,.slice none 0 0),(4,.int .i64 0)])],[],[],[],[]⟩,false,[]⟩ Tryz.f15 15 rfl rfl #[.slice b c g] w R:=wk Tryz.func15
def rG:Wk ⟨⟨[(3,[(5,.slice none 0 0),(11,.int .i64 0)])],[],[],[],[]⟩,true,[]⟩ Tryz.f113 113 rfl rfl #[.pointer b,.ii a] w R:=wk Tryz.func113
def tr:Wk ⟨⟨[(2,[])],[],[],[],[(4,⟨[0,0,2,4,8,0,0,64,128,256,512,0,2048,4096,8192,17408,32800,65536,131088,262145],[1048575,1048575,1048573,1048571,1048567,1048575,1048575,1048511,1048447,1048319,1048063,1048575,1046527,1044479,1040383,1031167,1015775,983039,917487,786430],[0,0,0,0,1,0,0,0,0,1,0,0,0,0,1,0,0,0,0,2]⟩)]⟩,false,[]⟩ Tryz.f61 61 rfl rfl #[.pointer b,.ii a] w R:=wk Tryz.func61
def oQ:Wk N1_ Tryz.f62 62 rfl rfl #[.pointer b] w R:=wk Tryz.func62
def ph:Wk N1_ Tryz.f63 63 rfl rfl #[.pointer b] w R:=wk Tryz.func63
def uu:Wk N0_ Tryz.f114 114 rfl rfl #[.pointer b,.ii a] w R:=wk Tryz.func114
def uv:Wk ⟨⟨[(8,[(36,.int .i64 0)])],[(12,[])],[],[],[]⟩,false,[]⟩ Tryz.f60 60 rfl rfl #[.pointer b,.pointer f,.slice j c g,.ii a] w R:=wk Tryz.func60
