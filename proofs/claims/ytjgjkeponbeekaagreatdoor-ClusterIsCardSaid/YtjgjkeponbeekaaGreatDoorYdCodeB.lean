import Derived.Test.YtjgjkeponbeekaaGreatDoorYdCodeA
set_option linter.all false
set_option maxRecDepth 100000
namespace Go.Proofs.YtjgjkeponbeekaaGreatDoor
open Go.ar
variable {a e i l o r u x z B D F H I J K L M:Int} {b f j m p s:Option Addr} {c g k n q t v y A C E G:Nat} {d h:Bool}
variable {w:World} {R:Ending->World->Prop}
def Dk:Wk ⟨⟨[],[],[10],[],[(10,⟨[0,0,0,0,8,16,0,64,160,295,512,2047],[4095,4095,4095,4095,4087,4079,4095,4031,3967,3800,3583,3071],[1,0,0,0,1,2,0,1,2,0,2,0]⟩)]⟩,true,[34]⟩ Tryz.f19 19 rfl rfl #[.agg #[.int .i64 a,.int .i64 e,.int .i64 i,.int .i64 l,.int .i64 o,.int .i64 r,.int .i64 u,.int .i64 x,.slice b c g,.slice f k n],.int .i64 z] w R:=wk Tryz.func19
def mq:Wk N1_ Tryz.f22 22 rfl rfl #[.pointer b] w R:=wk Tryz.func22
def py:Wk N1_ Tryz.f21 21 rfl rfl #[.pointer b] w R:=wk Tryz.func21
def lA:Wk ⟨⟨[],[(5,[(6,.pointer (some ⟨0,0,none⟩)),(7,.bool false),(8,.int .i64 0)]),(7,[(8,.int .i64 0)])],[3,4],[],[(3,⟨[0,1,2,4,8,0,32,64,128,256,528,2047],[4095,4094,4093,4091,4087,4095,4063,4031,3967,3839,3567,3071],[0,0,0,0,1,0,0,0,1,2,2,0]⟩),(4,⟨[0,1,2,4,8,0,32,64,128,0,0,1024,2048,4096,0,16384,32768,65536,131072,0,795408,1048576,2097152,2097152,2097152,0,41943039,117440511,268435455],[536870911,536870910,536870909,536870907,536870903,536870911,536870879,536870847,536870783,536870911,536870911,536869887,536868863,536866815,536870911,536854527,536838143,536805375,536739839,536870911,536075503,535822335,534773759,534773759,534773759,536870911,499122175,528482303,520093695],[0,0,0,0,1,0,0,0,1,0,0,0,0,1,0,0,0,0,1,1,2,0,0,0,0,2,2,0,0]⟩)]⟩,true,[57]⟩ Tryz.f50 50 rfl rfl #[.pointer b,.agg #[.int .i64 a,.int .i64 e,.int .i64 i,.int .i64 l,.int .i64 o,.int .i64 r,.int .i64 u]] w R:=wk Tryz.func50
def wP:Wk ⟨⟨[(4,[(5,.int .i64 0)])],[],[],[],[(6,⟨[0,0,3,4,0,0,48,64,136,256],[1023,1023,1020,1019,1023,1023,975,959,887,767],[0,0,0,1,0,0,0,1,2,0]⟩)]⟩,false,[]⟩ Tryz.f17 17 rfl rfl #[.slice b c g,.slice f k n] w R:=wk Tryz.func17
def Gk:Wk ⟨⟨[(4,[(3,.int .i64 0)]),(9,[(4,.int .i64 0)])],[],[],[],[]⟩,true,[]⟩ Tryz.f23 23 rfl rfl #[.agg #[.slice b c g,.slice f k n]] w R:=wk Tryz.func23
def Dp:Wk N1_ Tryz.f24 24 rfl rfl #[.int .i64 a] w R:=wk Tryz.func24
def pA:Wk N1_ Tryz.f55 55 rfl rfl #[.pointer b,.int .i64 a,.int .i64 e] w R:=wk Tryz.func55
def Bh:Wk ⟨⟨[(4,[(5,.int .i64 0)])],[],[],[],[]⟩,false,[]⟩ Tryz.f14 14 rfl rfl #[.slice b c g,.slice f k n] w R:=wk Tryz.func14
def Bi:Wk ⟨⟨[(4,[(16,.int .i64 0)]),(7,[(23,.int .i64 0)]),(15,[(38,.int .i64 0)])],[],[],[],[]⟩,true,[]⟩ Tryz.f40 40 rfl rfl #[.agg #[.slice b c g,.slice f k n]] w R:=wk Tryz.func40
def zi:Wk N1_ Tryz.f41 41 rfl rfl #[.agg #[.int .i64 a,.int .i64 e,.int .i64 i,.int .i64 l,.int .i64 o,.int .i64 r,.int .i64 u,.int .i64 x,.slice b c g,.slice f k n],.int .i64 z] w R:=wk Tryz.func41
def Is:Wk N0_ Tryz.f42 42 rfl rfl #[.int .i64 a] w R:=wk Tryz.func42
def wQ:Wk ⟨⟨[(3,[(17,.int .i64 0)]),(7,[(26,.int .i64 0)])],[],[],[],[]⟩,true,[38]⟩ Tryz.f43 43 rfl rfl #[.agg #[.slice b c g,.slice f k n]] w R:=wk Tryz.func43
def FI:Wk N1_ Tryz.f44 44 rfl rfl #[.int .i64 a] w R:=wk Tryz.func44
def Dq:Wk N1_ Tryz.f45 45 rfl rfl #[.int .i64 a] w R:=wk Tryz.func45
def lC:Wk ⟨⟨[(7,[(54,.int .i64 0)])],[],[1,11],[1],[(1,⟨[0,0,0,4,8,16,32,64,0,256,512,1024,2048,0,8192,16384,32768,65536,135296,397565,921853,1446141,4194303,8388607,12582911],[33554431,33554431,33554431,33554427,33554423,33554415,33554399,33554367,33554431,33554175,33553919,33553407,33552383,33554431,33546239,33538047,33521663,33488895,33419263,33554430,33030143,32505727,33554429,29360127,24903679],[0,0,0,0,0,0,1,2,0,0,0,0,1,0,0,0,0,1,2,0,0,2,0,0,2]⟩),(2,⟨[0,1,2,4,0,16,32,64,128,264,512,1024,1024,1024,4095,24575,65535],[131071,131070,131069,131067,131071,131055,131039,131007,130943,130807,130559,130047,130047,130047,129023,126975,122879],[0,0,0,1,0,0,0,0,1,2,0,0,0,0,0,0,0]⟩),(11,⟨[0,1,2,4,0,16,32,64,128,264],[1023,1022,1021,1019,1023,1007,991,959,895,759],[0,0,0,1,0,0,0,1,2,2]⟩)]⟩,true,[]⟩ Tryz.f46 46 rfl rfl #[.pointer b] w R:=wk Tryz.func46
def kH:Wk ⟨⟨[],[],[],[],[(4,⟨[0,1,2,4,0,16,32,64,0,392,512,2047],[4095,4094,4093,4091,4095,4079,4063,4031,4095,3703,3583,3071],[0,0,0,1,0,0,0,1,0,2,2,0]⟩)]⟩,true,[42]⟩ Tryz.f51 51 rfl rfl #[.pointer b,.int .i64 a,.int .i64 e] w R:=wk Tryz.func51
def lD:Wk ⟨⟨[],[],[10],[],[(3,⟨[0,0,2,4,8,16,0,64,128,256,512,1057,4095],[8191,8191,8189,8187,8183,8175,8191,8127,8063,7935,7679,7134,6143],[1,0,0,0,0,1,0,0,0,0,1,2,0]⟩),(10,⟨[0,1,2,4,0,16,0,64,0,256,512,1024,2048,4264],[16383,16382,16381,16379,16383,16367,16383,16319,16383,16127,15871,15359,14335,12119],[0,0,0,1,0,1,0,1,0,0,0,1,2,2]⟩),(12,⟨[0,1,2,4,0,16,32,64,0,0,512,1024,2048,4096,8584,32767,65535],[131071,131070,131069,131067,131071,131055,131039,131007,131071,131071,130559,130047,129023,126975,122487,114687,131071],[0,0,0,1,0,0,0,1,1,0,0,0,0,1,2,0,0]⟩),(13,⟨[0,1,2,4,0,16,0,64,128,256,512,1064,4095],[8191,8190,8189,8187,8191,8175,8191,8127,8063,7935,7679,7127,6143],[0,0,0,1,0,1,0,0,0,0,1,2,0]⟩),(15,⟨[0,1,2,4,0,16,0,104,128,511,1023],[2047,2046,2045,2043,2047,2031,2047,1943,1919,1791,2047],[0,0,0,1,0,1,0,0,2,0,0]⟩)]⟩,true,[]⟩ Tryz.f76 76 rfl rfl #[.pointer b,.agg #[.int .i64 a,.int .i64 e,.int .i64 i,.slice f c g,.slice j k n]] w R:=wk Tryz.func76
def om:Wk ⟨⟨[(3,[(5,.slice none 0 0),(15,.int .i64 0)])],[],[],[],[(5,⟨[0,0,2,4,8,0,32,64,128,0,784,1024,3073,8191],[16383,16383,16381,16379,16375,16383,16351,16319,16255,16383,15599,15359,14334,12286],[0,0,0,0,1,0,0,0,1,0,2,2,2,0]⟩)]⟩,true,[29]⟩ Tryz.f49 49 rfl rfl #[.pointer b,.int .i64 a] w R:=wk Tryz.func49
def nq:Wk N1_ Tryz.f52 52 rfl rfl #[.pointer b,.int .i64 a] w R:=wk Tryz.func52
def oq:Wk N1_ Tryz.f57 57 rfl rfl #[.pointer b,.int .i64 a] w R:=wk Tryz.func57
def lE:Wk ⟨⟨[],[],[3],[],[(3,⟨[0,1,2,4,0,16,32,64,0,256,512,1024,2048,0,8192,16384,32768,65536,135304,262144,524288,524288,2097151,8388607],[16777215,16777214,16777213,16777211,16777215,16777199,16777183,16777151,16777215,16776959,16776703,16776191,16775167,16777215,16769023,16760831,16744447,16711679,16641911,16515071,16252927,16252927,15728639,14680063],[0,0,0,1,0,0,0,1,0,0,0,1,2,0,0,0,0,1,2,0,0,0,0,0]⟩)]⟩,true,[]⟩ Tryz.f53 53 rfl rfl #[.pointer b] w R:=wk Tryz.func53
def wR:Wk N1_ Tryz.f59 59 rfl rfl #[.pointer b] w R:=wk Tryz.func59
def wS:Wk N1_ Tryz.f58 58 rfl rfl #[.pointer b] w R:=wk Tryz.func58
def KM:Wk ⟨⟨[(3,[(12,.int .i64 0)])],[],[],[],[]⟩,true,[]⟩ Tryz.f79 79 rfl rfl #[.agg #[.slice b c g,.slice f k n],.slice j q t] w R:=wk Tryz.func79
def ot:Wk ⟨⟨[],[],[8],[],[(8,⟨[0,1,2,4,0,16,32,64,128,264],[1023,1022,1021,1019,1023,1007,991,959,895,759],[0,0,0,1,0,0,0,1,2,2]⟩)]⟩,true,[]⟩ Tryz.f81 81 rfl rfl #[.pointer b,.slice f c g] w R:=wk Tryz.func81
def zj:Wk N0_ Tryz.f39 39 rfl rfl #[.agg #[.int .i64 a,.int .i64 e,.int .i64 i,.slice b c g,.int .i64 l,.int .i64 o,.int .i64 r,.int .i64 u,.int .i64 x,.int .i64 z],.agg #[.int .i64 B,.int .i64 D,.int .i64 F,.slice f k n,.int .i64 H,.int .i64 I,.int .i64 J,.int .i64 K,.int .i64 L,.int .i64 M]] w R:=wk Tryz.func39
def wT:Wk N1_ Tryz.f16 16 rfl rfl #[.agg #[.int .i64 a,.int .i64 e,.int .i64 i,.int .i64 l,.slice b c g,.slice f k n,.slice j q t,.bool d],.agg #[.int .i64 o,.int .i64 r,.int .i64 u,.int .i64 x,.slice m v y,.slice p A C,.slice s E G,.bool h]] w R:=wk Tryz.func16
def mr:Wk N1_ Tryz.f54 54 rfl rfl #[.pointer b,.int .i64 a,.int .i64 e,.int .i64 i] w R:=wk Tryz.func54
def ns:Wk N1_ Tryz.f56 56 rfl rfl #[.pointer b,.int .i64 a,.int .i64 e] w R:=wk Tryz.func56
def Gm:Wk N1_ Tryz.f60 60 rfl rfl #[] w R:=wk Tryz.func60
def ou:Wk N1_ Tryz.f89 89 rfl rfl #[.pointer b] w R:=wk Tryz.func89
def Dr:Wk ⟨⟨[(4,[(22,.int .i64 0)]),(9,[(34,.int .i64 0)])],[],[],[],[]⟩,true,[]⟩ Tryz.f66 66 rfl rfl #[.agg #[.slice b c g,.slice f k n]] w R:=wk Tryz.func66
def Bj:Wk ⟨⟨[],[(6,[(19,.bool false)])],[],[],[(4,⟨[0,1,2,4,8,24,8,72,168,264,8,1032,2568,4104,8200,20480],[65535,65534,65533,65531,65527,65511,65527,65463,65367,65271,65527,64503,62967,61431,57335,49151],[0,1,0,0,0,1,0,1,0,1,0,1,2,0,0,0]⟩)]⟩,true,[]⟩ Tryz.f68 68 rfl rfl #[.agg #[.slice b c g,.slice f k n],.agg #[.int .i64 a,.int .i64 e,.int .i64 i,.int .i64 l,.int .i64 o]] w R:=wk Tryz.func68
def uN:Wk N1_ Tryz.f69 69 rfl rfl #[.int .i64 a,.int .i64 e,.int .i64 i] w R:=wk Tryz.func69
def Bk:Wk N1_ Tryz.f70 70 rfl rfl #[.agg #[.slice b c g,.slice f k n],.int .i64 a,.int .i64 e] w R:=wk Tryz.func70
def Gn:Wk N1_ Tryz.f71 71 rfl rfl #[.int .i64 a] w R:=wk Tryz.func71
def Ds:Wk ⟨⟨[],[(9,[(11,.int .i64 0)])],[],[],[]⟩,false,[]⟩ Tryz.f73 73 rfl rfl #[.pointer b,.int .i64 a] w R:=wk Tryz.func73
def wU:Wk ⟨⟨[(10,[(49,.int .i64 0)])],[],[4,15],[],[(4,⟨[0,1,2,4,0,16,40,64,128,128,0,1535,4095],[8191,8190,8189,8187,8191,8175,8151,8127,8063,8063,8191,6911,7679],[0,0,0,1,0,1,1,0,0,0,2,2,0]⟩),(16,⟨[0,1,2,4,0,16,32,72,128,256,1023,2047],[4095,4094,4093,4091,4095,4079,4063,4023,3967,3839,4023,2559],[0,0,0,1,0,0,1,0,1,0,0,2]⟩),(17,⟨[0,0,2,4,8,0,32,80,255,511,767],[2047,2047,2045,2043,2039,2047,2015,1967,2046,1791,1407],[0,0,0,0,1,0,1,0,0,0,2]⟩)]⟩,true,[]⟩ Tryz.f74 74 rfl rfl #[.pointer b,.agg #[.int .i64 a,.int .i64 e,.int .i64 i,.slice f c g,.int .i64 l,.int .i64 o,.int .i64 r,.int .i64 u,.int .i64 x,.int .i64 z]] w R:=wk Tryz.func74
def pX:Wk ⟨⟨[(2,[(5,.int .i64 0)]),(8,[(56,.int .i64 0)])],[(4,[(5,.int .i64 0)]),(6,[])],[],[],[]⟩,true,[]⟩ Tryz.f75 75 rfl rfl #[.pointer b,.slice f c g] w R:=wk Tryz.func75
def pB:Wk N1_ Tryz.f82 82 rfl rfl #[.pointer b,.int .i64 a,.int .i64 e] w R:=wk Tryz.func82
def Dt:Wk N1_ Tryz.f78 78 rfl rfl #[.pointer b,.int .i64 a,.int .i64 e] w R:=wk Tryz.func78
def It:Wk ⟨⟨[],[(3,[(8,.bool false)])],[],[],[]⟩,true,[]⟩ Tryz.f118 118 rfl rfl #[.agg #[.int .i64 a,.int .i64 e,.int .i64 i,.slice b c g,.slice f k n],.int .i64 l,.int .i64 o] w R:=wk Tryz.func118
def nu:Wk ⟨⟨[],[(7,[])],[],[],[(7,⟨[0,1,2,4,0,16,32,64,0,256,648,1024,4095,8191],[16383,16382,16381,16379,16383,16367,16351,16319,16383,16127,15735,15359,14335,16383],[0,0,0,1,0,0,0,1,0,1,2,2,0,0]⟩)]⟩,true,[36]⟩ Tryz.f119 119 rfl rfl #[.pointer b,.agg #[.int .i64 a,.int .i64 e,.int .i64 i,.slice f c g,.slice j k n]] w R:=wk Tryz.func119
def pC:Wk ⟨⟨[],[(7,[])],[],[],[]⟩,true,[]⟩ Tryz.f120 120 rfl rfl #[.pointer b,.int .i64 a,.slice f c g,.slice j k n] w R:=wk Tryz.func120
def sg:Wk ⟨⟨[(3,[(5,.slice none 0 0),(11,.int .i64 0)])],[],[],[],[]⟩,true,[]⟩ Tryz.f77 77 rfl rfl #[.pointer b,.int .i64 a] w R:=wk Tryz.func77
def pd:Wk N1_ Tryz.f84 84 rfl rfl #[.pointer b] w R:=wk Tryz.func84
def pD:Wk N1_ Tryz.f85 85 rfl rfl #[.pointer b] w R:=wk Tryz.func85
def uO:Wk N0_ Tryz.f91 91 rfl rfl #[.pointer b,.int .i64 a] w R:=wk Tryz.func91
def uP:Wk ⟨⟨[(8,[(36,.int .i64 0)])],[(12,[])],[],[],[]⟩,false,[]⟩ Tryz.f87 87 rfl rfl #[.pointer b,.pointer f,.slice j c g,.int .i64 a] w R:=wk Tryz.func87
def tM:Wk N1_ Tryz.f94 94 rfl rfl #[.agg #[.int .i64 a,.int .i64 e,.int .i64 i,.slice b c g,.int .i64 l,.int .i64 o,.int .i64 r,.int .i64 u,.int .i64 x,.int .i64 z]] w R:=wk Tryz.func94
def ow:Wk N0_ Tryz.f92 92 rfl rfl #[.slice b c g] w R:=wk Tryz.func92
def KN:Wk N1_ Tryz.f105 105 rfl rfl #[.agg #[.slice b c g,.slice f k n]] w R:=wk Tryz.func105
def zl:Wk ⟨⟨[],[],[2,3],[2],[(2,⟨[0,0,2,4,8,0,32,0,0,448,512,1104,4095,8191,12287],[32767,32767,32765,32763,32759,32767,32735,32767,32767,32319,32255,31727,32766,28671,22527],[0,0,0,0,1,1,2,0,1,0,2,2,0,0,2]⟩)]⟩,true,[20,29]⟩ Tryz.f124 124 rfl rfl #[.pointer b,.agg #[.int .i64 a,.int .i64 e,.int .i64 i,.slice f c g,.int .i64 l,.int .i64 o,.int .i64 r,.int .i64 u,.int .i64 x,.int .i64 z]] w R:=wk Tryz.func124
def yY:Wk N1_ Tryz.f125 125 rfl rfl #[.agg #[.slice b c g,.slice f k n],.agg #[.int .i64 a,.int .i64 e,.int .i64 i,.int .i64 l,.int .i64 o,.int .i64 r,.int .i64 u]] w R:=wk Tryz.func125
def uQ:Wk N1_ Tryz.f127 127 rfl rfl #[.pointer b,.int .i64 a,.int .i64 e] w R:=wk Tryz.func127
def Kr:Wk N1_ Tryz.f128 128 rfl rfl #[.agg #[.slice b c g]] w R:=wk Tryz.func128
def wV:Wk N1_ Tryz.f133 133 rfl rfl #[.pointer b] w R:=wk Tryz.func133
def sh:Wk ⟨⟨[(3,[(5,.slice none 0 0),(14,.int .i64 0)])],[(16,[])],[16],[],[]⟩,false,[]⟩ Tryz.f134 134 rfl rfl #[.pointer b,.slice f c g] w R:=wk Tryz.func134
def uR:Wk ⟨⟨[],[],[1],[],[]⟩,false,[]⟩ Tryz.f135 135 rfl rfl #[.pointer b] w R:=wk Tryz.func135
def ox:Wk ⟨⟨[(3,[(22,.int .i64 0)])],[],[],[],[]⟩,true,[]⟩ Tryz.f136 136 rfl rfl #[.pointer b,.slice f c g] w R:=wk Tryz.func136
def zo:Wk N1_ Tryz.f36 36 rfl rfl #[.agg #[.int .i64 a,.slice b c g],.agg #[.int .i64 e,.slice f k n]] w R:=wk Tryz.func36
def Bl:Wk ⟨⟨[(4,[(5,.int .i64 0)])],[],[],[],[]⟩,true,[]⟩ Tryz.f38 38 rfl rfl #[.slice b c g,.slice f k n] w R:=wk Tryz.func38
def Gp:Wk N1_ Tryz.f90 90 rfl rfl #[.slice b c g,.int .i64 a,.int .i64 e] w R:=wk Tryz.func90
