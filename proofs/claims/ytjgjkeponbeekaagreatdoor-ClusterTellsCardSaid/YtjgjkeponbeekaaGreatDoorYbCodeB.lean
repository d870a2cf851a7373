import Derived.Test.YtjgjkeponbeekaaGreatDoorYbCodeA
set_option linter.all false
set_option maxRecDepth 100000
namespace Go.Proofs.YtjgjkeponbeekaaGreatDoor
open Go.ar
variable {a d g j l n p q r:Int} {b e h:Option Addr} {c f i k m o:Nat}
variable {w:World} {R:Ending->World->Prop}
def DM:Wk ⟨⟨[],[],[10],[],[(10,⟨[0,0,0,0,8,16,0,64,160,295,512,2047],[4095,4095,4095,4095,4087,4079,4095,4031,3967,3800,3583,3071],[1,0,0,0,1,2,0,1,2,0,2,0]⟩)]⟩,true,[34]⟩ Tryz.f19 19 rfl rfl #[.agg #[.int .i64 a,.int .i64 d,.int .i64 g,.int .i64 j,.int .i64 l,.int .i64 n,.int .i64 p,.int .i64 q,.slice b c f,.slice e i k],.int .i64 r] w R:=wk Tryz.func19
def qg:Wk N1_ Tryz.f21 21 rfl rfl #[.pointer b] w R:=wk Tryz.func21
def l_:Wk ⟨⟨[],[(5,[(6,.pointer (some ⟨0,0,none⟩)),(7,.bool false),(8,.int .i64 0)]),(7,[(8,.int .i64 0)])],[3,4],[],[(3,⟨[0,1,2,4,8,0,32,64,128,256,528,2047],[4095,4094,4093,4091,4087,4095,4063,4031,3967,3839,3567,3071],[0,0,0,0,1,0,0,0,1,2,2,0]⟩),(4,⟨[0,1,2,4,8,0,32,64,128,0,0,1024,2048,4096,0,16384,32768,65536,131072,0,795408,1048576,2097152,2097152,2097152,0,41943039,117440511,268435455],[536870911,536870910,536870909,536870907,536870903,536870911,536870879,536870847,536870783,536870911,536870911,536869887,536868863,536866815,536870911,536854527,536838143,536805375,536739839,536870911,536075503,535822335,534773759,534773759,534773759,536870911,499122175,528482303,520093695],[0,0,0,0,1,0,0,0,1,0,0,0,0,1,0,0,0,0,1,1,2,0,0,0,0,2,2,0,0]⟩)]⟩,true,[57]⟩ Tryz.f50 50 rfl rfl #[.pointer b,.agg #[.int .i64 a,.int .i64 d,.int .i64 g,.int .i64 j,.int .i64 l,.int .i64 n,.int .i64 p]] w R:=wk Tryz.func50
def GQ:Wk ⟨⟨[(4,[(3,.int .i64 0)]),(9,[(4,.int .i64 0)])],[],[],[],[]⟩,true,[]⟩ Tryz.f23 23 rfl rfl #[.agg #[.slice b c f,.slice e i k]] w R:=wk Tryz.func23
def DN:Wk N1_ Tryz.f24 24 rfl rfl #[.int .i64 a] w R:=wk Tryz.func24
def qh:Wk N1_ Tryz.f55 55 rfl rfl #[.pointer b,.int .i64 a,.int .i64 d] w R:=wk Tryz.func55
def BB:Wk ⟨⟨[(4,[(5,.int .i64 0)])],[],[],[],[]⟩,false,[]⟩ Tryz.f14 14 rfl rfl #[.slice b c f,.slice e i k] w R:=wk Tryz.func14
def BC:Wk ⟨⟨[(4,[(16,.int .i64 0)]),(7,[(23,.int .i64 0)]),(15,[(38,.int .i64 0)])],[],[],[],[]⟩,true,[]⟩ Tryz.f40 40 rfl rfl #[.agg #[.slice b c f,.slice e i k]] w R:=wk Tryz.func40
def zS:Wk N1_ Tryz.f41 41 rfl rfl #[.agg #[.int .i64 a,.int .i64 d,.int .i64 g,.int .i64 j,.int .i64 l,.int .i64 n,.int .i64 p,.int .i64 q,.slice b c f,.slice e i k],.int .i64 r] w R:=wk Tryz.func41
def IY:Wk N0_ Tryz.f42 42 rfl rfl #[.int .i64 a] w R:=wk Tryz.func42
def xy:Wk ⟨⟨[(3,[(17,.int .i64 0)]),(7,[(26,.int .i64 0)])],[],[],[],[]⟩,true,[38]⟩ Tryz.f43 43 rfl rfl #[.agg #[.slice b c f,.slice e i k]] w R:=wk Tryz.func43
def Gs:Wk N1_ Tryz.f44 44 rfl rfl #[.int .i64 a] w R:=wk Tryz.func44
def DO:Wk N1_ Tryz.f45 45 rfl rfl #[.int .i64 a] w R:=wk Tryz.func45
def mf:Wk ⟨⟨[(7,[(54,.int .i64 0)])],[],[1,11],[1],[(1,⟨[0,0,0,4,8,16,32,64,0,256,512,1024,2048,0,8192,16384,32768,65536,135296,397565,921853,1446141,4194303,8388607,12582911],[33554431,33554431,33554431,33554427,33554423,33554415,33554399,33554367,33554431,33554175,33553919,33553407,33552383,33554431,33546239,33538047,33521663,33488895,33419263,33554430,33030143,32505727,33554429,29360127,24903679],[0,0,0,0,0,0,1,2,0,0,0,0,1,0,0,0,0,1,2,0,0,2,0,0,2]⟩),(2,⟨[0,1,2,4,0,16,32,64,128,264,512,1024,1024,1024,4095,24575,65535],[131071,131070,131069,131067,131071,131055,131039,131007,130943,130807,130559,130047,130047,130047,129023,126975,122879],[0,0,0,1,0,0,0,0,1,2,0,0,0,0,0,0,0]⟩),(11,⟨[0,1,2,4,0,16,32,64,128,264],[1023,1022,1021,1019,1023,1007,991,959,895,759],[0,0,0,1,0,0,0,1,2,2]⟩)]⟩,true,[]⟩ Tryz.f46 46 rfl rfl #[.pointer b] w R:=wk Tryz.func46
def lH:Wk ⟨⟨[],[],[],[],[(4,⟨[0,1,2,4,0,16,32,64,0,392,512,2047],[4095,4094,4093,4091,4095,4079,4063,4031,4095,3703,3583,3071],[0,0,0,1,0,0,0,1,0,2,2,0]⟩)]⟩,true,[42]⟩ Tryz.f51 51 rfl rfl #[.pointer b,.int .i64 a,.int .i64 d] w R:=wk Tryz.func51
def mg:Wk ⟨⟨[],[],[10],[],[(3,⟨[0,0,2,4,8,16,0,64,128,256,512,1057,4095],[8191,8191,8189,8187,8183,8175,8191,8127,8063,7935,7679,7134,6143],[1,0,0,0,0,1,0,0,0,0,1,2,0]⟩),(10,⟨[0,1,2,4,0,16,0,64,0,256,512,1024,2048,4264],[16383,16382,16381,16379,16383,16367,16383,16319,16383,16127,15871,15359,14335,12119],[0,0,0,1,0,1,0,1,0,0,0,1,2,2]⟩),(12,⟨[0,1,2,4,0,16,32,64,0,0,512,1024,2048,4096,8584,32767,65535],[131071,131070,131069,131067,131071,131055,131039,131007,131071,131071,130559,130047,129023,126975,122487,114687,131071],[0,0,0,1,0,0,0,1,1,0,0,0,0,1,2,0,0]⟩),(13,⟨[0,1,2,4,0,16,0,64,128,256,512,1064,4095],[8191,8190,8189,8187,8191,8175,8191,8127,8063,7935,7679,7127,6143],[0,0,0,1,0,1,0,0,0,0,1,2,0]⟩),(15,⟨[0,1,2,4,0,16,0,104,128,511,1023],[2047,2046,2045,2043,2047,2031,2047,1943,1919,1791,2047],[0,0,0,1,0,1,0,0,2,0,0]⟩)]⟩,true,[]⟩ Tryz.f76 76 rfl rfl #[.pointer b,.agg #[.int .i64 a,.int .i64 d,.int .i64 g,.slice e c f,.slice h i k]] w R:=wk Tryz.func76
def oQ:Wk ⟨⟨[(3,[(5,.slice none 0 0),(15,.int .i64 0)])],[],[],[],[(5,⟨[0,0,2,4,8,0,32,64,128,0,784,1024,3073,8191],[16383,16383,16381,16379,16375,16383,16351,16319,16255,16383,15599,15359,14334,12286],[0,0,0,0,1,0,0,0,1,0,2,2,2,0]⟩)]⟩,true,[29]⟩ Tryz.f49 49 rfl rfl #[.pointer b,.int .i64 a] w R:=wk Tryz.func49
def nU:Wk N1_ Tryz.f52 52 rfl rfl #[.pointer b,.int .i64 a] w R:=wk Tryz.func52
def oR:Wk N1_ Tryz.f57 57 rfl rfl #[.pointer b,.int .i64 a] w R:=wk Tryz.func57
def mh:Wk ⟨⟨[],[],[3],[],[(3,⟨[0,1,2,4,0,16,32,64,0,256,512,1024,2048,0,8192,16384,32768,65536,135304,262144,524288,524288,2097151,8388607],[16777215,16777214,16777213,16777211,16777215,16777199,16777183,16777151,16777215,16776959,16776703,16776191,16775167,16777215,16769023,16760831,16744447,16711679,16641911,16515071,16252927,16252927,15728639,14680063],[0,0,0,1,0,0,0,1,0,0,0,1,2,0,0,0,0,1,2,0,0,0,0,0]⟩)]⟩,true,[]⟩ Tryz.f53 53 rfl rfl #[.pointer b] w R:=wk Tryz.func53
def xz:Wk N1_ Tryz.f59 59 rfl rfl #[.pointer b] w R:=wk Tryz.func59
def xA:Wk N1_ Tryz.f58 58 rfl rfl #[.pointer b] w R:=wk Tryz.func58
def LR:Wk ⟨⟨[(3,[(12,.int .i64 0)])],[],[],[],[]⟩,true,[]⟩ Tryz.f79 79 rfl rfl #[.agg #[.slice b c f,.slice e i k],.slice h m o] w R:=wk Tryz.func79
def oS:Wk ⟨⟨[],[],[8],[],[(8,⟨[0,1,2,4,0,16,32,64,128,264],[1023,1022,1021,1019,1023,1007,991,959,895,759],[0,0,0,1,0,0,0,1,2,2]⟩)]⟩,true,[]⟩ Tryz.f81 81 rfl rfl #[.pointer b,.slice e c f] w R:=wk Tryz.func81
def mX:Wk N1_ Tryz.f54 54 rfl rfl #[.pointer b,.int .i64 a,.int .i64 d,.int .i64 g] w R:=wk Tryz.func54
def nV:Wk N1_ Tryz.f56 56 rfl rfl #[.pointer b,.int .i64 a,.int .i64 d] w R:=wk Tryz.func56
def GR:Wk N1_ Tryz.f60 60 rfl rfl #[] w R:=wk Tryz.func60
def oT:Wk N1_ Tryz.f89 89 rfl rfl #[.pointer b] w R:=wk Tryz.func89
def DP:Wk ⟨⟨[(4,[(22,.int .i64 0)]),(9,[(34,.int .i64 0)])],[],[],[],[]⟩,true,[]⟩ Tryz.f66 66 rfl rfl #[.agg #[.slice b c f,.slice e i k]] w R:=wk Tryz.func66
def BD:Wk ⟨⟨[],[(6,[(19,.bool false)])],[],[],[(4,⟨[0,1,2,4,8,24,8,72,168,264,8,1032,2568,4104,8200,20480],[65535,65534,65533,65531,65527,65511,65527,65463,65367,65271,65527,64503,62967,61431,57335,49151],[0,1,0,0,0,1,0,1,0,1,0,1,2,0,0,0]⟩)]⟩,true,[]⟩ Tryz.f68 68 rfl rfl #[.agg #[.slice b c f,.slice e i k],.agg #[.int .i64 a,.int .i64 d,.int .i64 g,.int .i64 j,.int .i64 l]] w R:=wk Tryz.func68
def vA:Wk N1_ Tryz.f69 69 rfl rfl #[.int .i64 a,.int .i64 d,.int .i64 g] w R:=wk Tryz.func69
def BE:Wk N1_ Tryz.f70 70 rfl rfl #[.agg #[.slice b c f,.slice e i k],.int .i64 a,.int .i64 d] w R:=wk Tryz.func70
def GS:Wk N1_ Tryz.f71 71 rfl rfl #[.int .i64 a] w R:=wk Tryz.func71
def DQ:Wk ⟨⟨[],[(9,[(11,.int .i64 0)])],[],[],[]⟩,false,[]⟩ Tryz.f73 73 rfl rfl #[.pointer b,.int .i64 a] w R:=wk Tryz.func73
def xB:Wk ⟨⟨[(10,[(49,.int .i64 0)])],[],[4,15],[],[(4,⟨[0,1,2,4,0,16,40,64,128,128,0,1535,4095],[8191,8190,8189,8187,8191,8175,8151,8127,8063,8063,8191,6911,7679],[0,0,0,1,0,1,1,0,0,0,2,2,0]⟩),(16,⟨[0,1,2,4,0,16,32,72,128,256,1023,2047],[4095,4094,4093,4091,4095,4079,4063,4023,3967,3839,4023,2559],[0,0,0,1,0,0,1,0,1,0,0,2]⟩),(17,⟨[0,0,2,4,8,0,32,80,255,511,767],[2047,2047,2045,2043,2039,2047,2015,1967,2046,1791,1407],[0,0,0,0,1,0,1,0,0,0,2]⟩)]⟩,true,[]⟩ Tryz.f74 74 rfl rfl #[.pointer b,.agg #[.int .i64 a,.int .i64 d,.int .i64 g,.slice e c f,.int .i64 j,.int .i64 l,.int .i64 n,.int .i64 p,.int .i64 q,.int .i64 r]] w R:=wk Tryz.func74
def qF:Wk ⟨⟨[(2,[(5,.int .i64 0)]),(8,[(56,.int .i64 0)])],[(4,[(5,.int .i64 0)]),(6,[])],[],[],[]⟩,true,[]⟩ Tryz.f75 75 rfl rfl #[.pointer b,.slice e c f] w R:=wk Tryz.func75
def qi:Wk N1_ Tryz.f82 82 rfl rfl #[.pointer b,.int .i64 a,.int .i64 d] w R:=wk Tryz.func82
def DS:Wk N1_ Tryz.f78 78 rfl rfl #[.pointer b,.int .i64 a,.int .i64 d] w R:=wk Tryz.func78
def IZ:Wk ⟨⟨[],[(3,[(8,.bool false)])],[],[],[]⟩,true,[]⟩ Tryz.f118 118 rfl rfl #[.agg #[.int .i64 a,.int .i64 d,.int .i64 g,.slice b c f,.slice e i k],.int .i64 j,.int .i64 l] w R:=wk Tryz.func118
def nW:Wk ⟨⟨[],[(7,[])],[],[],[(7,⟨[0,1,2,4,0,16,32,64,0,256,648,1024,4095,8191],[16383,16382,16381,16379,16383,16367,16351,16319,16383,16127,15735,15359,14335,16383],[0,0,0,1,0,0,0,1,0,1,2,2,0,0]⟩)]⟩,true,[36]⟩ Tryz.f119 119 rfl rfl #[.pointer b,.agg #[.int .i64 a,.int .i64 d,.int .i64 g,.slice e c f,.slice h i k]] w R:=wk Tryz.func119
def qj:Wk ⟨⟨[],[(7,[])],[],[],[]⟩,true,[]⟩ Tryz.f120 120 rfl rfl #[.pointer b,.int .i64 a,.slice e c f,.slice h i k] w R:=wk Tryz.func120
def sQ:Wk ⟨⟨[(3,[(5,.slice none 0 0),(11,.int .i64 0)])],[],[],[],[]⟩,true,[]⟩ Tryz.f77 77 rfl rfl #[.pointer b,.int .i64 a] w R:=wk Tryz.func77
def pR:Wk N1_ Tryz.f84 84 rfl rfl #[.pointer b] w R:=wk Tryz.func84
def qk:Wk N1_ Tryz.f85 85 rfl rfl #[.pointer b] w R:=wk Tryz.func85
def vB:Wk N0_ Tryz.f91 91 rfl rfl #[.pointer b,.int .i64 a] w R:=wk Tryz.func91
def vC:Wk ⟨⟨[(8,[(36,.int .i64 0)])],[(12,[])],[],[],[]⟩,false,[]⟩ Tryz.f87 87 rfl rfl #[.pointer b,.pointer e,.slice h c f,.int .i64 a] w R:=wk Tryz.func87
def uu:Wk N1_ Tryz.f94 94 rfl rfl #[.agg #[.int .i64 a,.int .i64 d,.int .i64 g,.slice b c f,.int .i64 j,.int .i64 l,.int .i64 n,.int .i64 p,.int .i64 q,.int .i64 r]] w R:=wk Tryz.func94
def oU:Wk N0_ Tryz.f92 92 rfl rfl #[.slice b c f] w R:=wk Tryz.func92
def LS:Wk N1_ Tryz.f105 105 rfl rfl #[.agg #[.slice b c f,.slice e i k]] w R:=wk Tryz.func105
def zU:Wk ⟨⟨[],[],[2,3],[2],[(2,⟨[0,0,2,4,8,0,32,0,0,448,512,1104,4095,8191,12287],[32767,32767,32765,32763,32759,32767,32735,32767,32767,32319,32255,31727,32766,28671,22527],[0,0,0,0,1,1,2,0,1,0,2,2,0,0,2]⟩)]⟩,true,[20,29]⟩ Tryz.f124 124 rfl rfl #[.pointer b,.agg #[.int .i64 a,.int .i64 d,.int .i64 g,.slice e c f,.int .i64 j,.int .i64 l,.int .i64 n,.int .i64 p,.int .i64 q,.int .i64 r]] w R:=wk Tryz.func124
def zN:Wk N1_ Tryz.f125 125 rfl rfl #[.agg #[.slice b c f,.slice e i k],.agg #[.int .i64 a,.int .i64 d,.int .i64 g,.int .i64 j,.int .i64 l,.int .i64 n,.int .i64 p]] w R:=wk Tryz.func125
def vD:Wk N1_ Tryz.f127 127 rfl rfl #[.pointer b,.int .i64 a,.int .i64 d] w R:=wk Tryz.func127
def K_:Wk N1_ Tryz.f128 128 rfl rfl #[.agg #[.slice b c f]] w R:=wk Tryz.func128
def xC:Wk N1_ Tryz.f133 133 rfl rfl #[.pointer b] w R:=wk Tryz.func133
def sR:Wk ⟨⟨[(3,[(5,.slice none 0 0),(14,.int .i64 0)])],[(16,[])],[16],[],[]⟩,false,[]⟩ Tryz.f134 134 rfl rfl #[.pointer b,.slice e c f] w R:=wk Tryz.func134
def vE:Wk ⟨⟨[],[],[1],[],[]⟩,false,[]⟩ Tryz.f135 135 rfl rfl #[.pointer b] w R:=wk Tryz.func135
def oV:Wk ⟨⟨[(3,[(22,.int .i64 0)])],[],[],[],[]⟩,true,[]⟩ Tryz.f136 136 rfl rfl #[.pointer b,.slice e c f] w R:=wk Tryz.func136
def GU:Wk N1_ Tryz.f90 90 rfl rfl #[.slice b c f,.int .i64 a,.int .i64 d] w R:=wk Tryz.func90
