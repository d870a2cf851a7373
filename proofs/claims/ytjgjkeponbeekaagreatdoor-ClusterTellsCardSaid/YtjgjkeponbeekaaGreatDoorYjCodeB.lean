import Derived.Test.YtjgjkeponbeekaaGreatDoorYjCodeA
set_option linter.all false
set_option maxRecDepth 100000
namespace Go.Proofs.YtjgjkeponbeekaaGreatDoor
open Go.aw
variable {a e h k n p r s t:Int} {b f i l:Option Addr} {c g j m o q:Nat} {d:Bool}
variable {w:World} {R:Ending->World->Prop}
def DB:Wk ⟨⟨[],[],[10],[],[(10,⟨[0,0,0,0,8,16,0,64,160,295,512,2047],[4095,4095,4095,4095,4087,4079,4095,4031,3967,3800,3583,3071],[1,0,0,0,1,2,0,1,2,0,2,0]⟩)]⟩,true,[34]⟩ Tryz.f19 19 rfl rfl #[.agg #[.ii a,.ii e,.ii h,.ii k,.ii n,.ii p,.ii r,.ii s,.slice b c g,.slice f j m],.ii t] w R:=wk Tryz.func19
def qo:Wk N1_ Tryz.f21 21 rfl rfl #[.pointer b] w R:=wk Tryz.func21
def my:Wk ⟨⟨[],[(5,[(6,.pointer (some ⟨0,0,none⟩)),(7,.bool false),(8,.int .i64 0)]),(7,[(8,.int .i64 0)])],[3,4],[],[(3,⟨[0,1,2,4,8,0,32,64,128,256,528,2047],[4095,4094,4093,4091,4087,4095,4063,4031,3967,3839,3567,3071],[0,0,0,0,1,0,0,0,1,2,2,0]⟩),(4,⟨[0,1,2,4,8,0,32,64,128,0,0,1024,2048,4096,0,16384,32768,65536,131072,0,795408,1048576,2097152,2097152,2097152,0,41943039,117440511,268435455],[536870911,536870910,536870909,536870907,536870903,536870911,536870879,536870847,536870783,536870911,536870911,536869887,536868863,536866815,536870911,536854527,536838143,536805375,536739839,536870911,536075503,535822335,534773759,534773759,534773759,536870911,499122175,528482303,520093695],[0,0,0,0,1,0,0,0,1,0,0,0,0,1,0,0,0,0,1,1,2,0,0,0,0,2,2,0,0]⟩)]⟩,true,[57]⟩ Tryz.f50 50 rfl rfl #[.pointer b,.agg #[.ii a,.ii e,.ii h,.ii k,.ii n,.ii p,.ii r]] w R:=wk Tryz.func50
def GI:Wk ⟨⟨[(4,[(3,.int .i64 0)]),(9,[(4,.int .i64 0)])],[],[],[],[]⟩,true,[]⟩ Tryz.f23 23 rfl rfl #[.agg #[.slice b c g,.slice f j m]] w R:=wk Tryz.func23
def DD:Wk N1_ Tryz.f24 24 rfl rfl #[.ii a] w R:=wk Tryz.func24
def qp:Wk N1_ Tryz.f55 55 rfl rfl #[.pointer b,.ii a,.ii e] w R:=wk Tryz.func55
def Bt:Wk ⟨⟨[(4,[(5,.int .i64 0)])],[],[],[],[]⟩,false,[]⟩ Tryz.f14 14 rfl rfl #[.slice b c g,.slice f j m] w R:=wk Tryz.func14
def Bu:Wk ⟨⟨[(4,[(16,.int .i64 0)]),(7,[(23,.int .i64 0)]),(15,[(38,.int .i64 0)])],[],[],[],[]⟩,true,[]⟩ Tryz.f40 40 rfl rfl #[.agg #[.slice b c g,.slice f j m]] w R:=wk Tryz.func40
def zM:Wk N1_ Tryz.f41 41 rfl rfl #[.agg #[.ii a,.ii e,.ii h,.ii k,.ii n,.ii p,.ii r,.ii s,.slice b c g,.slice f j m],.ii t] w R:=wk Tryz.func41
def IM:Wk N0_ Tryz.f42 42 rfl rfl #[.ii a] w R:=wk Tryz.func42
def xt:Wk ⟨⟨[(3,[(17,.int .i64 0)]),(7,[(26,.int .i64 0)])],[],[],[],[]⟩,true,[38]⟩ Tryz.f43 43 rfl rfl #[.agg #[.slice b c g,.slice f j m]] w R:=wk Tryz.func43
def Gi:Wk N1_ Tryz.f44 44 rfl rfl #[.ii a] w R:=wk Tryz.func44
def DE:Wk N1_ Tryz.f45 45 rfl rfl #[.ii a] w R:=wk Tryz.func45
def mz:Wk ⟨⟨[(7,[(54,.int .i64 0)])],[],[1,11],[1],[(1,⟨[0,0,0,4,8,16,32,64,0,256,512,1024,2048,0,8192,16384,32768,65536,135296,397565,921853,1446141,4194303,8388607,12582911],[33554431,33554431,33554431,33554427,33554423,33554415,33554399,33554367,33554431,33554175,33553919,33553407,33552383,33554431,33546239,33538047,33521663,33488895,33419263,33554430,33030143,32505727,33554429,29360127,24903679],[0,0,0,0,0,0,1,2,0,0,0,0,1,0,0,0,0,1,2,0,0,2,0,0,2]⟩),(2,⟨[0,1,2,4,0,16,32,64,128,264,512,1024,1024,1024,4095,24575,65535],[131071,131070,131069,131067,131071,131055,131039,131007,130943,130807,130559,130047,130047,130047,129023,126975,122879],[0,0,0,1,0,0,0,0,1,2,0,0,0,0,0,0,0]⟩),(11,⟨[0,1,2,4,0,16,32,64,128,264],[1023,1022,1021,1019,1023,1007,991,959,895,759],[0,0,0,1,0,0,0,1,2,2]⟩)]⟩,true,[]⟩ Tryz.f46 46 rfl rfl #[.pointer b] w R:=wk Tryz.func46
def lL:Wk ⟨⟨[],[],[],[],[(4,⟨[0,1,2,4,0,16,32,64,0,392,512,2047],[4095,4094,4093,4091,4095,4079,4063,4031,4095,3703,3583,3071],[0,0,0,1,0,0,0,1,0,2,2,0]⟩)]⟩,true,[42]⟩ Tryz.f51 51 rfl rfl #[.pointer b,.ii a,.ii e] w R:=wk Tryz.func51
def mB:Wk ⟨⟨[],[],[10],[],[(3,⟨[0,0,2,4,8,16,0,64,128,256,512,1057,4095],[8191,8191,8189,8187,8183,8175,8191,8127,8063,7935,7679,7134,6143],[1,0,0,0,0,1,0,0,0,0,1,2,0]⟩),(10,⟨[0,1,2,4,0,16,0,64,0,256,512,1024,2048,4264],[16383,16382,16381,16379,16383,16367,16383,16319,16383,16127,15871,15359,14335,12119],[0,0,0,1,0,1,0,1,0,0,0,1,2,2]⟩),(12,⟨[0,1,2,4,0,16,32,64,0,0,512,1024,2048,4096,8584,32767,65535],[131071,131070,131069,131067,131071,131055,131039,131007,131071,131071,130559,130047,129023,126975,122487,114687,131071],[0,0,0,1,0,0,0,1,1,0,0,0,0,1,2,0,0]⟩),(13,⟨[0,1,2,4,0,16,0,64,128,256,512,1064,4095],[8191,8190,8189,8187,8191,8175,8191,8127,8063,7935,7679,7127,6143],[0,0,0,1,0,1,0,0,0,0,1,2,0]⟩),(15,⟨[0,1,2,4,0,16,0,104,128,511,1023],[2047,2046,2045,2043,2047,2031,2047,1943,1919,1791,2047],[0,0,0,1,0,1,0,0,2,0,0]⟩)]⟩,true,[]⟩ Tryz.f76 76 rfl rfl #[.pointer b,.agg #[.ii a,.ii e,.ii h,.slice f c g,.slice i j m]] w R:=wk Tryz.func76
def oY:Wk ⟨⟨[(3,[(5,.slice none 0 0),(15,.int .i64 0)])],[],[],[],[(5,⟨[0,0,2,4,8,0,32,64,128,0,784,1024,3073,8191],[16383,16383,16381,16379,16375,16383,16351,16319,16255,16383,15599,15359,14334,12286],[0,0,0,0,1,0,0,0,1,0,2,2,2,0]⟩)]⟩,true,[29]⟩ Tryz.f49 49 rfl rfl #[.pointer b,.ii a] w R:=wk Tryz.func49
def ob:Wk N1_ Tryz.f52 52 rfl rfl #[.pointer b,.ii a] w R:=wk Tryz.func52
def oZ:Wk N1_ Tryz.f57 57 rfl rfl #[.pointer b,.ii a] w R:=wk Tryz.func57
def mC:Wk ⟨⟨[],[],[3],[],[(3,⟨[0,1,2,4,0,16,32,64,0,256,512,1024,2048,0,8192,16384,32768,65536,135304,262144,524288,524288,2097151,8388607],[16777215,16777214,16777213,16777211,16777215,16777199,16777183,16777151,16777215,16776959,16776703,16776191,16775167,16777215,16769023,16760831,16744447,16711679,16641911,16515071,16252927,16252927,15728639,14680063],[0,0,0,1,0,0,0,1,0,0,0,1,2,0,0,0,0,1,2,0,0,0,0,0]⟩)]⟩,true,[]⟩ Tryz.f53 53 rfl rfl #[.pointer b] w R:=wk Tryz.func53
def xu:Wk N1_ Tryz.f59 59 rfl rfl #[.pointer b] w R:=wk Tryz.func59
def xv:Wk N1_ Tryz.f58 58 rfl rfl #[.pointer b] w R:=wk Tryz.func58
def LI:Wk ⟨⟨[(3,[(12,.int .i64 0)])],[],[],[],[]⟩,true,[]⟩ Tryz.f79 79 rfl rfl #[.agg #[.slice b c g,.slice f j m],.slice i o q] w R:=wk Tryz.func79
def zN:Wk ⟨⟨[(13,[(68,.int .i64 0)])],[(11,[]),(20,[(25,.pointer (some ⟨0,0,none⟩)),(26,.int .i64 0)])],[19],[],[(19,⟨[0,0,0,4,0,24,0,96,171,256,512,512,0,6143,16383],[32767,32767,32767,32763,32767,32751,32767,32671,32628,32511,32255,32255,32767,27647,30719],[1,0,0,2,0,2,0,0,2,0,0,0,2,2,0]⟩)]⟩,true,[]⟩ Tryz.f80 80 rfl rfl #[.agg #[.slice b c g,.slice f j m],.pointer i,.pointer l,.ii a,.ii e,.agg #[.ii h,.ii k,.ii n,.ii p,.ii r,.ii s,.ii t]] w R:=wk Tryz.func80
def o_:Wk ⟨⟨[],[],[8],[],[(8,⟨[0,1,2,4,0,16,32,64,128,264],[1023,1022,1021,1019,1023,1007,991,959,895,759],[0,0,0,1,0,0,0,1,2,2]⟩)]⟩,true,[]⟩ Tryz.f81 81 rfl rfl #[.pointer b,.slice f c g] w R:=wk Tryz.func81
def nk:Wk N1_ Tryz.f54 54 rfl rfl #[.pointer b,.ii a,.ii e,.ii h] w R:=wk Tryz.func54
def od:Wk N1_ Tryz.f56 56 rfl rfl #[.pointer b,.ii a,.ii e] w R:=wk Tryz.func56
def GJ:Wk N1_ Tryz.f60 60 rfl rfl #[] w R:=wk Tryz.func60
def pd:Wk N1_ Tryz.f89 89 rfl rfl #[.pointer b] w R:=wk Tryz.func89
def DF:Wk ⟨⟨[(4,[(22,.int .i64 0)]),(9,[(34,.int .i64 0)])],[],[],[],[]⟩,true,[]⟩ Tryz.f66 66 rfl rfl #[.agg #[.slice b c g,.slice f j m]] w R:=wk Tryz.func66
def Bv:Wk ⟨⟨[],[(5,[])],[],[],[(3,⟨[0,1,2,4,12,16,48,80,144,16,528,1296,2064,4112,8208,16400,32768,98304,163840,262144,786432,1310720,2392064,4227072],[16777215,16777214,16777213,16777211,16777207,16777199,16777167,16777135,16777071,16777199,16776687,16775919,16775151,16773103,16769007,16760831,16744447,16678911,16613375,16515071,15990783,15466495,14385151,12550143],[0,1,2,0,0,0,1,0,1,0,1,0,0,0,0,0,0,1,0,0,1,0,0,0]⟩)]⟩,true,[]⟩ Tryz.f67 67 rfl rfl #[.agg #[.slice b c g],.agg #[.ii a,.ii e,.bool d,.slice f j m]] w R:=wk Tryz.func67
def Bw:Wk ⟨⟨[],[(6,[(19,.bool false)])],[],[],[(4,⟨[0,1,2,4,8,24,8,72,168,264,8,1032,2568,4104,8200,20480],[65535,65534,65533,65531,65527,65511,65527,65463,65367,65271,65527,64503,62967,61431,57335,49151],[0,1,0,0,0,1,0,1,0,1,0,1,2,0,0,0]⟩)]⟩,true,[]⟩ Tryz.f68 68 rfl rfl #[.agg #[.slice b c g,.slice f j m],.agg #[.ii a,.ii e,.ii h,.ii k,.ii n]] w R:=wk Tryz.func68
def vy:Wk N1_ Tryz.f69 69 rfl rfl #[.ii a,.ii e,.ii h] w R:=wk Tryz.func69
def By:Wk N1_ Tryz.f70 70 rfl rfl #[.agg #[.slice b c g,.slice f j m],.ii a,.ii e] w R:=wk Tryz.func70
def GK:Wk N1_ Tryz.f71 71 rfl rfl #[.ii a] w R:=wk Tryz.func71
def Gc:Wk ⟨⟨[(3,[(23,.int .i64 0)]),(7,[(32,.int .i64 0)]),(15,[(75,.int .i64 0)])],[],[17],[17],[(17,⟨[0,0,2,4,8,16,0,64,128,416,1023,2047,3071,5119],[16383,16383,16381,16379,16375,16367,16383,16319,16255,16095,16382,15359,14335,11775],[0,0,0,0,0,1,1,2,2,2,0,0,0,2]⟩)]⟩,true,[]⟩ Tryz.f72 72 rfl rfl #[.agg #[.slice b c g,.slice f j m],.ii a] w R:=wk Tryz.func72
def DG:Wk ⟨⟨[],[(9,[(11,.int .i64 0)])],[],[],[]⟩,false,[]⟩ Tryz.f73 73 rfl rfl #[.pointer b,.ii a] w R:=wk Tryz.func73
def xx:Wk ⟨⟨[(10,[(49,.int .i64 0)])],[],[4,15],[],[(4,⟨[0,1,2,4,0,16,40,64,128,128,0,1535,4095],[8191,8190,8189,8187,8191,8175,8151,8127,8063,8063,8191,6911,7679],[0,0,0,1,0,1,1,0,0,0,2,2,0]⟩),(16,⟨[0,1,2,4,0,16,32,72,128,256,1023,2047],[4095,4094,4093,4091,4095,4079,4063,4023,3967,3839,4023,2559],[0,0,0,1,0,0,1,0,1,0,0,2]⟩),(17,⟨[0,0,2,4,8,0,32,80,255,511,767],[2047,2047,2045,2043,2039,2047,2015,1967,2046,1791,1407],[0,0,0,0,1,0,1,0,0,0,2]⟩)]⟩,true,[]⟩ Tryz.f74 74 rfl rfl #[.pointer b,.agg #[.ii a,.ii e,.ii h,.slice f c g,.ii k,.ii n,.ii p,.ii r,.ii s,.ii t]] w R:=wk Tryz.func74
def qE:Wk ⟨⟨[(2,[(5,.int .i64 0)]),(8,[(56,.int .i64 0)])],[(4,[(5,.int .i64 0)]),(6,[])],[],[],[]⟩,true,[]⟩ Tryz.f75 75 rfl rfl #[.pointer b,.slice f c g] w R:=wk Tryz.func75
def qq:Wk N1_ Tryz.f82 82 rfl rfl #[.pointer b,.ii a,.ii e] w R:=wk Tryz.func82
def DH:Wk N1_ Tryz.f78 78 rfl rfl #[.pointer b,.ii a,.ii e] w R:=wk Tryz.func78
def IN:Wk ⟨⟨[],[(3,[(8,.bool false)])],[],[],[]⟩,true,[]⟩ Tryz.f118 118 rfl rfl #[.agg #[.ii a,.ii e,.ii h,.slice b c g,.slice f j m],.ii k,.ii n] w R:=wk Tryz.func118
def oe:Wk ⟨⟨[],[(7,[])],[],[],[(7,⟨[0,1,2,4,0,16,32,64,0,256,648,1024,4095,8191],[16383,16382,16381,16379,16383,16367,16351,16319,16383,16127,15735,15359,14335,16383],[0,0,0,1,0,0,0,1,0,1,2,2,0,0]⟩)]⟩,true,[36]⟩ Tryz.f119 119 rfl rfl #[.pointer b,.agg #[.ii a,.ii e,.ii h,.slice f c g,.slice i j m]] w R:=wk Tryz.func119
def qs:Wk ⟨⟨[],[(7,[])],[],[],[]⟩,true,[]⟩ Tryz.f120 120 rfl rfl #[.pointer b,.ii a,.slice f c g,.slice i j m] w R:=wk Tryz.func120
def DI:Wk ⟨⟨[],[(3,[]),(7,[(9,.slice none 0 0)]),(11,[(9,.slice none 0 0)])],[],[],[]⟩,true,[66]⟩ Tryz.f121 121 rfl rfl #[.pointer b,.ii a,.agg #[.ii e,.ii h,.ii k,.slice f c g,.slice i j m],.ii n] w R:=wk Tryz.func121
def qY:Wk N1_ Tryz.f122 122 rfl rfl #[.pointer b,.slice f c g,.ii a] w R:=wk Tryz.func122
def sR:Wk ⟨⟨[(3,[(5,.slice none 0 0),(11,.int .i64 0)])],[],[],[],[]⟩,true,[]⟩ Tryz.f77 77 rfl rfl #[.pointer b,.ii a] w R:=wk Tryz.func77
def ur:Wk ⟨⟨[(2,[])],[],[],[],[(4,⟨[0,0,2,4,8,0,0,64,128,256,512,0,2048,4096,8192,17408,32800,65536,131088,262145],[1048575,1048575,1048573,1048571,1048567,1048575,1048575,1048511,1048447,1048319,1048063,1048575,1046527,1044479,1040383,1031167,1015775,983039,917487,786430],[0,0,0,0,1,0,0,0,0,1,0,0,0,0,1,0,0,0,0,2]⟩)]⟩,false,[]⟩ Tryz.f83 83 rfl rfl #[.pointer b,.ii a] w R:=wk Tryz.func83
def qb:Wk N1_ Tryz.f84 84 rfl rfl #[.pointer b] w R:=wk Tryz.func84
def qt:Wk N1_ Tryz.f85 85 rfl rfl #[.pointer b] w R:=wk Tryz.func85
def vz:Wk N0_ Tryz.f91 91 rfl rfl #[.pointer b,.ii a] w R:=wk Tryz.func91
def vA:Wk ⟨⟨[(8,[(36,.int .i64 0)])],[(12,[])],[],[],[]⟩,false,[]⟩ Tryz.f87 87 rfl rfl #[.pointer b,.pointer f,.slice i c g,.ii a] w R:=wk Tryz.func87
def uu:Wk N1_ Tryz.f94 94 rfl rfl #[.agg #[.ii a,.ii e,.ii h,.slice b c g,.ii k,.ii n,.ii p,.ii r,.ii s,.ii t]] w R:=wk Tryz.func94
def pf:Wk N0_ Tryz.f92 92 rfl rfl #[.slice b c g] w R:=wk Tryz.func92
def LJ:Wk N1_ Tryz.f105 105 rfl rfl #[.agg #[.slice b c g,.slice f j m]] w R:=wk Tryz.func105
def zO:Wk ⟨⟨[],[],[2,3],[2],[(2,⟨[0,0,2,4,8,0,32,0,0,448,512,1104,4095,8191,12287],[32767,32767,32765,32763,32759,32767,32735,32767,32767,32319,32255,31727,32766,28671,22527],[0,0,0,0,1,1,2,0,1,0,2,2,0,0,2]⟩)]⟩,true,[20,29]⟩ Tryz.f124 124 rfl rfl #[.pointer b,.agg #[.ii a,.ii e,.ii h,.slice f c g,.ii k,.ii n,.ii p,.ii r,.ii s,.ii t]] w R:=wk Tryz.func124
def zF:Wk N1_ Tryz.f125 125 rfl rfl #[.agg #[.slice b c g,.slice f j m],.agg #[.ii a,.ii e,.ii h,.ii k,.ii n,.ii p,.ii r]] w R:=wk Tryz.func125
def uv:Wk N1_ Tryz.f126 126 rfl rfl #[.pointer b,.ii a] w R:=wk Tryz.func126
def vB:Wk N1_ Tryz.f127 127 rfl rfl #[.pointer b,.ii a,.ii e] w R:=wk Tryz.func127
def KS:Wk N1_ Tryz.f128 128 rfl rfl #[.agg #[.slice b c g]] w R:=wk Tryz.func128
def vC:Wk N1_ Tryz.f129 129 rfl rfl #[.pointer (some ⟨c,g,none⟩),.pointer (some ⟨j,m,none⟩)] w R:=wk Tryz.func129
def vD:Wk N1_ Tryz.f130 130 rfl rfl #[.pointer (some ⟨c,g,none⟩),.pointer (some ⟨j,m,none⟩),.pointer (some ⟨o,q,none⟩)] w R:=wk Tryz.func130
def zG:Wk ⟨⟨[],[],[6],[],[(6,⟨[0,1,0,4,0,16,0,64,0,256,0,1024,0,4096,0,16384,43690,0,262143],[524287,524286,524287,524283,524287,524271,524287,524223,524287,524031,524287,523263,524287,520191,524287,507903,480597,524287,327679],[0,0,0,2,0,1,0,1,0,1,0,1,0,1,0,1,0,2,2]⟩)]⟩,true,[]⟩ Tryz.f132 132 rfl rfl #[.agg #[.ii a,.ii e,.ii h,.ii k,.ii n,.ii p,.ii r],.ii s,.slice b c g,.ii t] w R:=wk Tryz.func132
def xy:Wk N1_ Tryz.f133 133 rfl rfl #[.pointer b] w R:=wk Tryz.func133
def sS:Wk ⟨⟨[(3,[(5,.slice none 0 0),(14,.int .i64 0)])],[(16,[])],[16],[],[]⟩,false,[]⟩ Tryz.f134 134 rfl rfl #[.pointer b,.slice f c g] w R:=wk Tryz.func134
def vE:Wk ⟨⟨[],[],[1],[],[]⟩,false,[]⟩ Tryz.f135 135 rfl rfl #[.pointer b] w R:=wk Tryz.func135
def pg:Wk ⟨⟨[(3,[(22,.int .i64 0)])],[],[],[],[]⟩,true,[]⟩ Tryz.f136 136 rfl rfl #[.pointer b,.slice f c g] w R:=wk Tryz.func136
def GM:Wk N1_ Tryz.f90 90 rfl rfl #[.slice b c g,.ii a,.ii e] w R:=wk Tryz.func90
