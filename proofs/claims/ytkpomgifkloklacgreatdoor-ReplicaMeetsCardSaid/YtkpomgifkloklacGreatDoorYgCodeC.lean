import Derived.Test.YtkpomgifkloklacGreatDoorYgCodeA
set_option linter.all false
set_option maxRecDepth 100000
namespace Go.Proofs.YtkpomgifkloklacGreatDoor
open Go.aw
variable {a i:Option Addr} {b j m o q s u v x y z A B C D E F G:Int} {c k n p r t:Nat} {d:FuncId} {e l:Array Value} {f:ByteArray} {g:Option Nat} {h:Bool}
variable {w:World} {R:Ending->World->Prop}
def tf:Wk N1_ Tryz.f61 61 rfl rfl #[.pointer a,.ii b,.ii j] w R:=wk Tryz.func61
def Hw:Wk N1_ Tryz.f62 62 rfl rfl #[.agg #[.slice a c k]] w R:=wk Tryz.func62
def tg:Wk N1_ Tryz.f63 63 rfl rfl #[.pointer (some ⟨c,k,none⟩),.pointer (some ⟨n,p,none⟩)] w R:=wk Tryz.func63
def th:Wk N1_ Tryz.f64 64 rfl rfl #[.pointer (some ⟨c,k,none⟩),.pointer (some ⟨n,p,none⟩),.pointer (some ⟨r,t,none⟩)] w R:=wk Tryz.func64
def wN:Wk ⟨⟨[],[],[6],[],[(6,⟨[0,1,0,4,0,16,0,64,0,256,0,1024,0,4096,0,16384,43690,0,262143],[524287,524286,524287,524283,524287,524271,524287,524223,524287,524031,524287,523263,524287,520191,524287,507903,480597,524287,327679],[0,0,0,2,0,1,0,1,0,1,0,1,0,1,0,1,0,2,2]⟩)]⟩,true,[]⟩ Tryz.f66 66 rfl rfl #[.agg #[.ii b,.ii j,.ii m,.ii o,.ii q,.ii s,.ii u],.ii v,.slice a c k,.ii x] w R:=wk Tryz.func66
def uY:Wk N1_ Tryz.f67 67 rfl rfl #[.pointer a] w R:=wk Tryz.func67
def qD:Wk ⟨⟨[(3,[(5,.slice none 0 0),(14,.int .i64 0)])],[(16,[])],[16],[],[]⟩,false,[]⟩ Tryz.f68 68 rfl rfl #[.pointer a,.slice i c k] w R:=wk Tryz.func68
def tj:Wk ⟨⟨[],[],[1],[],[]⟩,false,[]⟩ Tryz.f69 69 rfl rfl #[.pointer a] w R:=wk Tryz.func69
def mQ:Wk ⟨⟨[(3,[(22,.int .i64 0)])],[],[],[],[]⟩,true,[]⟩ Tryz.f70 70 rfl rfl #[.pointer a,.slice i c k] w R:=wk Tryz.func70
def wT:Wk N1_ Tryz.f79 79 rfl rfl #[.agg #[.ii b,.slice a c k],.agg #[.ii j,.slice i n p]] w R:=wk Tryz.func79
def yr:Wk ⟨⟨[(4,[(5,.int .i64 0)])],[],[],[],[]⟩,true,[]⟩ Tryz.f81 81 rfl rfl #[.slice a c k,.slice i n p] w R:=wk Tryz.func81
def CU:Wk N1_ Tryz.f83 83 rfl rfl #[.slice a c k,.ii b,.ii j] w R:=wk Tryz.func83
def wU:Wk N1_ Tryz.f84 84 rfl rfl #[.ii b,.ii j,.ii m] w R:=wk Tryz.func84
def uZ:Wk N1_ Tryz.f85 85 rfl rfl #[.agg #[.ii b,.ii j,.ii m,.ii o]] w R:=wk Tryz.func85
def u_:Wk N1_ Tryz.f86 86 rfl rfl #[.agg #[.ii b,.ii j,.ii m,.ii o],.pointer (some ⟨c,k,none⟩)] w R:=wk Tryz.func86
def EV:Wk N1_ Tryz.f87 87 rfl rfl #[.agg #[.slice a c k],.ii b,.ii j] w R:=wk Tryz.func87
def eY:Wk N1_ Tryz.f88 88 rfl rfl #[.slice a c k,.func (.func d) e l] w R:=wk Tryz.func88
def gH:Wk N1_ Tryz.f89 89 rfl rfl #[.slice a c k] w R:=wk Tryz.func89
def gI:Wk N1_ Tryz.f90 90 rfl rfl #[.slice a c k] w R:=wk Tryz.func90
def fT:Wk N1_ Tryz.f91 91 rfl rfl #[.slice a c k] w R:=wk Tryz.func91
def HH:Wk ⟨⟨[],[],[],[],[]⟩,true,[3]⟩ Tryz.f92 92 rfl rfl #[.agg #[.ii b,.ii j,.ii m,.ii o,.ii q]] w R:=wk Tryz.func92
def ry:Wk ⟨⟨[],[],[1],[1],[(1,⟨[0,0,2,4,8,0,0,64,128,256,544,1024,3088,8191,16383,24575],[65535,65535,65533,65531,65527,65535,65535,65471,65407,65279,64991,64511,63471,65534,57343,45055],[0,0,0,0,1,0,0,0,0,1,2,2,2,0,0,2]⟩)]⟩,true,[]⟩ Tryz.f93 93 rfl rfl #[.pointer a] w R:=wk Tryz.func93
def AL:Wk ⟨⟨[(3,[(3,.int .i64 0),(11,.int .i64 0)])],[],[],[],[]⟩,false,[]⟩ Tryz.f94 94 rfl rfl #[.pointer a] w R:=wk Tryz.func94
def wV:Wk ⟨⟨[(10,[(43,.int .i64 0)])],[],[11],[11],[]⟩,false,[]⟩ Tryz.f95 95 rfl rfl #[.pointer a] w R:=wk Tryz.func95
def AM:Wk N1_ Tryz.f99 99 rfl rfl #[.agg #[.ii b,.ii j,.ii m,.slice a c k,.ii o,.ii q,.ii s,.ii u,.ii v,.ii x],.ii y] w R:=wk Tryz.func99
def tk:Wk ⟨⟨[(8,[(42,.int .i64 0)])],[],[],[],[]⟩,true,[]⟩ Tryz.f100 100 rfl rfl #[.pointer a,.agg #[.ii b,.ii j,.ii m,.slice i c k,.ii o,.ii q,.ii s,.ii u,.ii v,.ii x],.ii y] w R:=wk Tryz.func100
def wW:Wk N1_ Tryz.f101 101 rfl rfl #[.agg #[.ii b,.ii j,.ii m,.slice a c k,.ii o,.ii q,.ii s,.ii u,.ii v,.ii x]] w R:=wk Tryz.func101
def sQ:Wk ⟨⟨[(4,[(36,.int .i64 0)])],[(2,[(4,.pointer (some ⟨0,0,none⟩))]),(3,[(5,.pointer (some ⟨0,0,none⟩))]),(9,[(9,.int .i64 0)])],[1,2,11],[11],[(2,⟨[0,1,2,4,8,0,32,0,128,336,512,1024,1024,0,12287,32767],[65535,65534,65533,65531,65527,65535,65503,65535,65407,65199,65023,64511,64511,65535,55295,61439],[0,0,0,0,1,0,1,0,1,2,0,0,0,2,2,0]⟩),(9,⟨[0,1,2,4,8,0,48,64,0,0,896],[2047,2046,2045,2043,2039,2047,1999,1983,2047,2047,1151],[0,0,0,0,1,0,0,1,1,0,2]⟩),(11,⟨[0,0,2,4,8,0,32,64,208,511,1023,1535],[4095,4095,4093,4091,4087,4095,4063,4031,3951,4094,3583,2815],[0,0,0,0,1,1,2,2,2,0,0,2]⟩)]⟩,true,[72]⟩ Tryz.f103 103 rfl rfl #[.pointer a,.agg #[.ii b,.ii j,.ii m,.slice i c k,.ii o,.ii q,.ii s,.ii u,.ii v,.ii x]] w R:=wk Tryz.func103
def AN:Wk N1_ Tryz.f120 120 rfl rfl #[.ii b,.pointer (some ⟨c,k,none⟩)] w R:=wk Tryz.func120
def CV:Wk ⟨⟨[(6,[(30,.int .i64 0)])],[],[],[],[]⟩,true,[]⟩ Tryz.f121 121 rfl rfl #[.agg #[.ii b,.ii j,.ii m,.slice a c k,.slice i n p],.ii o,.ii q] w R:=wk Tryz.func121
def CW:Wk ⟨⟨[(6,[(21,.int .i64 0)])],[],[],[],[]⟩,true,[]⟩ Tryz.f122 122 rfl rfl #[.agg #[.ii b,.ii j,.ii m,.slice a c k,.slice i n p],.ii o] w R:=wk Tryz.func122
def lW:Wk ⟨⟨[(4,[(5,.slice none 0 0),(16,.int .i64 0)]),(12,[(5,.slice none 0 0)]),(16,[(5,.slice none 0 0),(50,.int .i64 0)])],[],[],[],[]⟩,true,[32,59]⟩ Tryz.f123 123 rfl rfl #[.pointer a,.slice i c k] w R:=wk Tryz.func123
def HI:Wk N1_ Tryz.f125 125 rfl rfl #[.pointer a,.ii b,.ii j] w R:=wk Tryz.func125
def HJ:Wk ⟨⟨[(3,[(5,.slice none 0 0),(12,.int .i64 0)])],[],[],[],[]⟩,true,[]⟩ Tryz.f115 115 rfl rfl #[.slice a c k,.slice i n p] w R:=wk Tryz.func115
def KJ:Wk ⟨⟨[(3,[(5,.int .i64 0),(14,.int .i64 0)])],[],[],[],[]⟩,true,[]⟩ Tryz.f126 126 rfl rfl #[.slice a c k,.slice i n p] w R:=wk Tryz.func126
def mR:Wk ⟨⟨[],[],[1],[],[(1,⟨[0,1,2,0,0,16,32,72,128,260,1023],[2047,2046,2045,2047,2047,2031,2015,1975,1919,1787,1535],[0,0,1,1,0,0,1,2,0,0,0]⟩)]⟩,true,[]⟩ Tryz.f128 128 rfl rfl #[.agg #[.ii b,.ii j,.ii m,.slice a c k,.ii o,.ii q,.ii s,.ii u,.ii v,.ii x],.pointer (some ⟨n,p,none⟩)] w R:=wk Tryz.func128
def KK:Wk N1_ Tryz.f114 114 rfl rfl #[.slice a c k,.ii b] w R:=wk Tryz.func114
def vb:Wk ⟨⟨[],[],[],[],[(0,⟨[0,0,2,4,8,0,0,64,128,256,512,1056,2048,4112,8192,32767,65535,98303],[262143,262143,262141,262139,262135,262143,262143,262079,262015,261887,261631,261087,260095,258031,253951,262142,229375,180223],[0,0,0,0,1,0,0,0,0,1,0,0,0,0,2,0,0,2]⟩)]⟩,false,[]⟩ Tryz.f189 189 rfl rfl #[.pointer a,.ii b] w R:=wk Tryz.func189
def qE:Wk N0_ Tryz.f151 151 rfl rfl #[.pointer a,.string f] w R:=wk Tryz.func151
def yt:Wk N0_ Tryz.f146 146 rfl rfl #[.ii b] w R:=wk Tryz.func146
def dA:Wk N1_ Tryz.f107 107 rfl rfl #[.map g] w R:=wk Tryz.func107
def vd:Wk ⟨⟨[],[],[1],[],[(1,⟨[0,1,0,4,10,0,32,64,0,256,512,1168,0,4096,8192,0,32768,65536,149504,264208,786432,2097151],[4194303,4194302,4194303,4194299,4194293,4194303,4194271,4194239,4194303,4194047,4193791,4193151,4194303,4190207,4186111,4194303,4161535,4128767,4046847,3930095,3670015,3145727],[0,1,0,1,2,0,0,1,0,0,1,2,0,0,1,0,0,1,2,2,2,0]⟩)]⟩,true,[]⟩ Tryz.f109 109 rfl rfl #[.agg #[.ii b,.ii j,.ii m,.slice a c k,.ii o,.ii q,.ii s,.ii u,.ii v,.ii x],.agg #[.ii y,.ii z,.ii A,.slice i n p,.ii B,.ii C,.ii D,.ii E,.ii F,.ii G]] w R:=wk Tryz.func109
def wX:Wk ⟨⟨[(3,[(15,.int .i64 0)]),(7,[(24,.int .i64 0)])],[],[],[],[]⟩,true,[]⟩ Tryz.f104 104 rfl rfl #[.agg #[.slice a c k,.slice i n p]] w R:=wk Tryz.func104
def wY:Wk ⟨⟨[(5,[(51,.int .i64 0)])],[(4,[(6,.pointer (some ⟨0,0,none⟩)),(7,.pointer (some ⟨0,0,none⟩))]),(13,[])],[3,10,15,16],[],[(1,⟨[0,1,2,4,0,16,0,64,0,256,0,1024,2728,4096],[16383,16382,16381,16379,16383,16367,16383,16319,16383,16127,16383,15359,13655,12287],[0,0,0,1,0,1,0,1,0,1,0,1,2,0]⟩),(3,⟨[0,1,2,4,8,0,32,80,128,0,512,0,2048,5120,0,16384,40960,0,0,393727,1048575],[2097151,2097150,2097149,2097147,2097143,2097151,2097119,2097071,2097023,2097151,2096639,2097151,2095103,2092031,2097151,2080767,2056191,2097151,2097151,1965823,1769471],[0,0,0,0,1,0,1,0,1,0,1,0,1,0,0,1,0,2,2,2,2]⟩),(10,⟨[0,1,2,4,0,16,40,64,128,128,0,1535,4095],[8191,8190,8189,8187,8191,8175,8151,8127,8063,8063,8191,6911,7679],[0,0,0,1,0,1,1,0,0,0,2,2,0]⟩),(15,⟨[0,1,2,4,0,16,0,64,128,0,0,1024,0,4096,0,16384,0,65536,174592,262400,1048575],[2097151,2097150,2097149,2097147,2097151,2097135,2097151,2097087,2097023,2097151,2097151,2096127,2097151,2093055,2097151,2080767,2097151,2031615,1922559,1834751,1572823],[0,0,0,1,0,1,0,1,0,1,0,1,0,1,0,1,0,1,2,0,2]⟩),(16,⟨[0,1,2,4,0,0,32,127,128,448,128,2047],[4095,4094,4093,4091,4095,4095,4063,4071,3967,3775,3967,2551],[0,0,0,1,1,1,2,2,0,2,0,2]⟩)]⟩,true,[120]⟩ Tryz.f105 105 rfl rfl #[.pointer a,.agg #[.ii b,.ii j,.ii m,.slice i c k,.ii o,.ii q,.ii s,.ii u,.ii v,.ii x]] w R:=wk Tryz.func105
def CX:Wk N1_ Tryz.f106 106 rfl rfl #[.agg #[.ii b,.ii j,.ii m,.slice a c k,.ii o,.ii q,.ii s,.ii u,.ii v,.ii x]] w R:=wk Tryz.func106
def AO:Wk ⟨⟨[],[],[],[],[(4,⟨[0,1,2,6,8,24,40,8,136,328,520,1032],[4095,4094,4093,4091,4087,4071,4055,4087,3959,3767,3575,3071],[0,2,0,0,0,0,1,0,1,0,0,0]⟩)]⟩,true,[]⟩ Tryz.f110 110 rfl rfl #[.agg #[.slice a c k,.slice i n p],.ii b,.ii j,.ii m,.ii o] w R:=wk Tryz.func110
def oQ:Wk N1_ Tryz.f111 111 rfl rfl #[.agg #[.ii b,.ii j,.ii m,.slice a c k,.ii o,.ii q,.ii s,.ii u,.ii v,.ii x],.pointer (some ⟨n,p,none⟩)] w R:=wk Tryz.func111
def CY:Wk ⟨⟨[(3,[(11,.int .i64 0)])],[],[5],[],[(5,⟨[0,1,0,0,8,0,48,64,128,256,1023,2047,3071],[8191,8190,8191,8191,8183,8191,8143,8127,8063,7935,8185,7167,5631],[0,1,0,0,1,0,0,0,1,2,0,0,2]⟩)]⟩,true,[]⟩ Tryz.f112 112 rfl rfl #[.agg #[.ii b,.slice a c k]] w R:=wk Tryz.func112
def CE:Wk N1_ Tryz.f113 113 rfl rfl #[] w R:=wk Tryz.func113
def wZ:Wk N0_ Tryz.f116 116 rfl rfl #[.agg #[.ii b,.ii j,.ii m,.slice a c k,.ii o,.ii q,.ii s,.ii u,.ii v,.ii x]] w R:=wk Tryz.func116
def qF:Wk N0_ Tryz.f117 117 rfl rfl #[.pointer a,.string f,.slice i c k] w R:=wk Tryz.func117
def tl:Wk ⟨⟨[],[],[],[],[(1,⟨[0,1,2,4,0,16,32,64,128,256,520,1024,2048,8191],[16383,16382,16381,16379,16383,16367,16351,16319,16255,16127,15863,15359,14335,12287],[0,0,0,1,0,0,0,1,0,0,0,1,2,0]⟩)]⟩,false,[]⟩ Tryz.f118 118 rfl rfl #[.pointer a] w R:=wk Tryz.func118
def tq:Wk N0_ Tryz.f119 119 rfl rfl #[.pointer a,.string f] w R:=wk Tryz.func119
def w_:Wk ⟨⟨[(4,[(5,.int .i64 0)])],[],[],[],[(6,⟨[0,0,3,4,8,0,0,96,128,256,528,1024,2048,2048,14336,18432,34816,2048,2048,395264,526336,1050624,2164736,4196352,8390656],[33554431,33554431,33554428,33554427,33554423,33554431,33554431,33554335,33554303,33554175,33553903,33553407,33552383,33552383,33540095,33535999,33519615,33552383,33552383,33159167,33028095,32503807,31389695,29358079,25163775],[0,0,0,0,1,0,0,0,0,1,0,0,0,0,0,0,1,0,0,0,0,1,2,0,0]⟩)]⟩,true,[]⟩ Tryz.f129 129 rfl rfl #[.slice a c k,.slice i n p] w R:=wk Tryz.func129
def yu:Wk N1_ Tryz.f130 130 rfl rfl #[.slice a c k,.func (.func d) e l] w R:=wk Tryz.func130
def xd:Wk N1_ Tryz.f131 131 rfl rfl #[.agg #[.ii b,.ii j,.ii m,.slice a c k,.ii o,.ii q,.ii s,.ii u,.ii v,.ii x,.bool h,.ii y,.ii z],.pointer (some ⟨n,p,none⟩),.pointer (some ⟨r,t,none⟩)] w R:=wk Tryz.func131
def xf:Wk N1_ Tryz.f132 132 rfl rfl #[.agg #[.ii b,.ii j,.ii m,.slice a c k,.ii o,.ii q,.ii s,.ii u,.ii v,.ii x,.bool h,.ii y,.ii z]] w R:=wk Tryz.func132
def yv:Wk N1_ Tryz.f134 134 rfl rfl #[.ii b,.pointer (some ⟨c,k,none⟩),.pointer (some ⟨n,p,none⟩)] w R:=wk Tryz.func134
