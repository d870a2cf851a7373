import Derived.Test.YtblabbpipmodgaaGreatDoorYpCodeA
set_option linter.all false
set_option maxRecDepth 100000
namespace Go.Proofs.YtblabbpipmodgaaGreatDoor
open Go.aw
variable {a h l n p r t u v x y z A B C D E F:Int} {b i:Option Addr} {c j m o q s:Nat} {d:FuncId} {e k:Array Value} {f:Option Nat} {g:ByteArray}
variable {w:World} {R:Ending->World->Prop}
def sE:Wk N1_ Tryz.f81 81 rfl rfl #[.agg #[.ii a,.ii h,.ii l,.slice b c j,.ii n,.ii p,.ii r,.ii t,.ii u,.ii v]] w R:=wk Tryz.func81
def nd:Wk N0_ Tryz.f102 102 rfl rfl #[.slice b c j] w R:=wk Tryz.func102
def Jf:Wk N1_ Tryz.f78 78 rfl rfl #[.agg #[.slice b c j,.slice i m o]] w R:=wk Tryz.func78
def xO:Wk ⟨⟨[],[],[2,3],[2],[(2,⟨[0,0,2,4,8,0,32,0,0,448,512,1104,4095,8191,12287],[32767,32767,32765,32763,32759,32767,32735,32767,32767,32319,32255,31727,32766,28671,22527],[0,0,0,0,1,1,2,0,1,0,2,2,0,0,2]⟩)]⟩,true,[20,29]⟩ Tryz.f79 79 rfl rfl #[.pointer b,.agg #[.ii a,.ii h,.ii l,.slice i c j,.ii n,.ii p,.ii r,.ii t,.ii u,.ii v]] w R:=wk Tryz.func79
def xE:Wk N1_ Tryz.f82 82 rfl rfl #[.agg #[.slice b c j,.slice i m o],.agg #[.ii a,.ii h,.ii l,.ii n,.ii p,.ii r,.ii t]] w R:=wk Tryz.func82
def sF:Wk N1_ Tryz.f83 83 rfl rfl #[.pointer b,.ii a] w R:=wk Tryz.func83
def tL:Wk N1_ Tryz.f84 84 rfl rfl #[.pointer b,.ii a,.ii h] w R:=wk Tryz.func84
def IU:Wk N1_ Tryz.f85 85 rfl rfl #[.agg #[.slice b c j]] w R:=wk Tryz.func85
def tM:Wk N1_ Tryz.f86 86 rfl rfl #[.pointer (some ⟨c,j,none⟩),.pointer (some ⟨m,o,none⟩)] w R:=wk Tryz.func86
def tN:Wk N1_ Tryz.f87 87 rfl rfl #[.pointer (some ⟨c,j,none⟩),.pointer (some ⟨m,o,none⟩),.pointer (some ⟨q,s,none⟩)] w R:=wk Tryz.func87
def xF:Wk ⟨⟨[],[],[6],[],[(6,⟨[0,1,0,4,0,16,0,64,0,256,0,1024,0,4096,0,16384,43690,0,262143],[524287,524286,524287,524283,524287,524271,524287,524223,524287,524031,524287,523263,524287,520191,524287,507903,480597,524287,327679],[0,0,0,2,0,1,0,1,0,1,0,1,0,1,0,1,0,2,2]⟩)]⟩,true,[]⟩ Tryz.f89 89 rfl rfl #[.agg #[.ii a,.ii h,.ii l,.ii n,.ii p,.ii r,.ii t],.ii u,.slice b c j,.ii v] w R:=wk Tryz.func89
def vC:Wk N1_ Tryz.f90 90 rfl rfl #[.pointer b] w R:=wk Tryz.func90
def qT:Wk ⟨⟨[(3,[(5,.slice none 0 0),(14,.int .i64 0)])],[(16,[])],[16],[],[]⟩,false,[]⟩ Tryz.f91 91 rfl rfl #[.pointer b,.slice i c j] w R:=wk Tryz.func91
def tO:Wk ⟨⟨[],[],[1],[],[]⟩,false,[]⟩ Tryz.f92 92 rfl rfl #[.pointer b] w R:=wk Tryz.func92
def ng:Wk ⟨⟨[(3,[(22,.int .i64 0)])],[],[],[],[]⟩,true,[]⟩ Tryz.f93 93 rfl rfl #[.pointer b,.slice i c j] w R:=wk Tryz.func93
def xP:Wk N1_ Tryz.f106 106 rfl rfl #[.agg #[.ii a,.slice b c j],.agg #[.ii h,.slice i m o]] w R:=wk Tryz.func106
def zF:Wk ⟨⟨[(4,[(5,.int .i64 0)])],[],[],[],[]⟩,true,[]⟩ Tryz.f108 108 rfl rfl #[.slice b c j,.slice i m o] w R:=wk Tryz.func108
def Ex:Wk N1_ Tryz.f110 110 rfl rfl #[.slice b c j,.ii a,.ii h] w R:=wk Tryz.func110
def xQ:Wk N1_ Tryz.f125 125 rfl rfl #[.ii a,.ii h,.ii l] w R:=wk Tryz.func125
def vD:Wk N1_ Tryz.f126 126 rfl rfl #[.agg #[.ii a,.ii h,.ii l,.ii n]] w R:=wk Tryz.func126
def vE:Wk N1_ Tryz.f127 127 rfl rfl #[.agg #[.ii a,.ii h,.ii l,.ii n],.pointer (some ⟨c,j,none⟩)] w R:=wk Tryz.func127
def GC:Wk N1_ Tryz.f128 128 rfl rfl #[.agg #[.slice b c j],.ii a,.ii h] w R:=wk Tryz.func128
def fl:Wk N1_ Tryz.f129 129 rfl rfl #[.slice b c j,.func (.func d) e k] w R:=wk Tryz.func129
def gJ:Wk N1_ Tryz.f130 130 rfl rfl #[.slice b c j] w R:=wk Tryz.func130
def gK:Wk N1_ Tryz.f131 131 rfl rfl #[.slice b c j] w R:=wk Tryz.func131
def fU:Wk N1_ Tryz.f132 132 rfl rfl #[.slice b c j] w R:=wk Tryz.func132
def Jg:Wk ⟨⟨[],[],[],[],[]⟩,true,[3]⟩ Tryz.f133 133 rfl rfl #[.agg #[.ii a,.ii h,.ii l,.ii n,.ii p]] w R:=wk Tryz.func133
def rZ:Wk ⟨⟨[],[],[1],[1],[(1,⟨[0,0,2,4,8,0,0,64,128,256,544,1024,3088,8191,16383,24575],[65535,65535,65533,65531,65527,65535,65535,65471,65407,65279,64991,64511,63471,65534,57343,45055],[0,0,0,0,1,0,0,0,0,1,2,2,2,0,0,2]⟩)]⟩,true,[]⟩ Tryz.f134 134 rfl rfl #[.pointer b] w R:=wk Tryz.func134
def BS:Wk ⟨⟨[(3,[(3,.int .i64 0),(11,.int .i64 0)])],[],[],[],[]⟩,false,[]⟩ Tryz.f135 135 rfl rfl #[.pointer b] w R:=wk Tryz.func135
def xR:Wk ⟨⟨[(10,[(43,.int .i64 0)])],[],[11],[11],[]⟩,false,[]⟩ Tryz.f136 136 rfl rfl #[.pointer b] w R:=wk Tryz.func136
def BT:Wk N1_ Tryz.f140 140 rfl rfl #[.agg #[.ii a,.ii h,.ii l,.slice b c j,.ii n,.ii p,.ii r,.ii t,.ii u,.ii v],.ii x] w R:=wk Tryz.func140
def tP:Wk ⟨⟨[(8,[(42,.int .i64 0)])],[],[],[],[]⟩,true,[]⟩ Tryz.f141 141 rfl rfl #[.pointer b,.agg #[.ii a,.ii h,.ii l,.slice i c j,.ii n,.ii p,.ii r,.ii t,.ii u,.ii v],.ii x] w R:=wk Tryz.func141
def xS:Wk N1_ Tryz.f142 142 rfl rfl #[.agg #[.ii a,.ii h,.ii l,.slice b c j,.ii n,.ii p,.ii r,.ii t,.ii u,.ii v]] w R:=wk Tryz.func142
def tv:Wk ⟨⟨[(4,[(36,.int .i64 0)])],[(2,[(4,.pointer (some ⟨0,0,none⟩))]),(3,[(5,.pointer (some ⟨0,0,none⟩))]),(9,[(9,.int .i64 0)])],[1,2,11],[11],[(2,⟨[0,1,2,4,8,0,32,0,128,336,512,1024,1024,0,12287,32767],[65535,65534,65533,65531,65527,65535,65503,65535,65407,65199,65023,64511,64511,65535,55295,61439],[0,0,0,0,1,0,1,0,1,2,0,0,0,2,2,0]⟩),(9,⟨[0,1,2,4,8,0,48,64,0,0,896],[2047,2046,2045,2043,2039,2047,1999,1983,2047,2047,1151],[0,0,0,0,1,0,0,1,1,0,2]⟩),(11,⟨[0,0,2,4,8,0,32,64,208,511,1023,1535],[4095,4095,4093,4091,4087,4095,4063,4031,3951,4094,3583,2815],[0,0,0,0,1,1,2,2,2,0,0,2]⟩)]⟩,true,[72]⟩ Tryz.f144 144 rfl rfl #[.pointer b,.agg #[.ii a,.ii h,.ii l,.slice i c j,.ii n,.ii p,.ii r,.ii t,.ii u,.ii v]] w R:=wk Tryz.func144
def BU:Wk N1_ Tryz.f95 95 rfl rfl #[.ii a,.pointer (some ⟨c,j,none⟩)] w R:=wk Tryz.func95
def Ey:Wk ⟨⟨[(6,[(30,.int .i64 0)])],[],[],[],[]⟩,true,[]⟩ Tryz.f96 96 rfl rfl #[.agg #[.ii a,.ii h,.ii l,.slice b c j,.slice i m o],.ii n,.ii p] w R:=wk Tryz.func96
def Ez:Wk ⟨⟨[(6,[(21,.int .i64 0)])],[],[],[],[]⟩,true,[]⟩ Tryz.f97 97 rfl rfl #[.agg #[.ii a,.ii h,.ii l,.slice b c j,.slice i m o],.ii n] w R:=wk Tryz.func97
def mr:Wk ⟨⟨[(4,[(5,.slice none 0 0),(16,.int .i64 0)]),(12,[(5,.slice none 0 0)]),(16,[(5,.slice none 0 0),(50,.int .i64 0)])],[],[],[],[]⟩,true,[32,59]⟩ Tryz.f98 98 rfl rfl #[.pointer b,.slice i c j] w R:=wk Tryz.func98
def Jh:Wk N1_ Tryz.f99 99 rfl rfl #[.pointer b,.ii a,.ii h] w R:=wk Tryz.func99
def Ji:Wk ⟨⟨[(3,[(5,.slice none 0 0),(12,.int .i64 0)])],[],[],[],[]⟩,true,[]⟩ Tryz.f100 100 rfl rfl #[.slice b c j,.slice i m o] w R:=wk Tryz.func100
def Ml:Wk ⟨⟨[(3,[(5,.int .i64 0),(14,.int .i64 0)])],[],[],[],[]⟩,true,[]⟩ Tryz.f101 101 rfl rfl #[.slice b c j,.slice i m o] w R:=wk Tryz.func101
def nh:Wk ⟨⟨[],[],[1],[],[(1,⟨[0,1,2,0,0,16,32,72,128,260,1023],[2047,2046,2045,2047,2047,2031,2015,1975,1919,1787,1535],[0,0,1,1,0,0,1,2,0,0,0]⟩)]⟩,true,[]⟩ Tryz.f104 104 rfl rfl #[.agg #[.ii a,.ii h,.ii l,.slice b c j,.ii n,.ii p,.ii r,.ii t,.ii u,.ii v],.pointer (some ⟨m,o,none⟩)] w R:=wk Tryz.func104
def Mm:Wk N1_ Tryz.f105 105 rfl rfl #[.slice b c j,.ii a] w R:=wk Tryz.func105
def xU:Wk N0_ Tryz.f44 44 rfl rfl #[.agg #[.ii a,.ii h,.ii l,.slice b c j,.ii n,.ii p,.ii r,.ii t,.ii u,.ii v]] w R:=wk Tryz.func44
def pw:Wk N1_ Tryz.f168 168 rfl rfl #[.pointer b] w R:=wk Tryz.func168
def cX:Wk ⟨⟨[(1,[])],[],[],[],[]⟩,false,[]⟩ Tryz.f121 121 rfl rfl #[.map f,.func (.func d) e k] w R:=wk Tryz.func121
def px:Wk N0_ Tryz.f122 122 rfl rfl #[.string g,.pointer b] w R:=wk Tryz.func122
def vF:Wk ⟨⟨[],[],[],[],[(0,⟨[0,0,2,4,8,0,0,64,128,256,512,1056,2048,4112,8192,32767,65535,98303],[262143,262143,262141,262139,262135,262143,262143,262079,262015,261887,261631,261087,260095,258031,253951,262142,229375,180223],[0,0,0,0,1,0,0,0,0,1,0,0,0,0,2,0,0,2]⟩)]⟩,false,[]⟩ Tryz.f123 123 rfl rfl #[.pointer b,.ii a] w R:=wk Tryz.func123
def qU:Wk N0_ Tryz.f119 119 rfl rfl #[.pointer b,.string g] w R:=wk Tryz.func119
def vG:Wk ⟨⟨[(3,[(4,.slice none 0 0),(11,.int .i64 0)])],[],[],[],[]⟩,false,[]⟩ Tryz.f115 115 rfl rfl #[.slice b c j] w R:=wk Tryz.func115
def tQ:Wk N0_ Tryz.f117 117 rfl rfl #[.pointer b] w R:=wk Tryz.func117
def oC:Wk N0_ Tryz.f118 118 rfl rfl #[.pointer b] w R:=wk Tryz.func118
def zG:Wk N0_ Tryz.f120 120 rfl rfl #[.ii a] w R:=wk Tryz.func120
def dG:Wk N1_ Tryz.f148 148 rfl rfl #[.map f] w R:=wk Tryz.func148
def vH:Wk ⟨⟨[],[],[1],[],[(1,⟨[0,1,0,4,10,0,32,64,0,256,512,1168,0,4096,8192,0,32768,65536,149504,264208,786432,2097151],[4194303,4194302,4194303,4194299,4194293,4194303,4194271,4194239,4194303,4194047,4193791,4193151,4194303,4190207,4186111,4194303,4161535,4128767,4046847,3930095,3670015,3145727],[0,1,0,1,2,0,0,1,0,0,1,2,0,0,1,0,0,1,2,2,2,0]⟩)]⟩,true,[]⟩ Tryz.f150 150 rfl rfl #[.agg #[.ii a,.ii h,.ii l,.slice b c j,.ii n,.ii p,.ii r,.ii t,.ii u,.ii v],.agg #[.ii x,.ii y,.ii z,.slice i m o,.ii A,.ii B,.ii C,.ii D,.ii E,.ii F]] w R:=wk Tryz.func150
def xV:Wk ⟨⟨[(3,[(15,.int .i64 0)]),(7,[(24,.int .i64 0)])],[],[],[],[]⟩,true,[]⟩ Tryz.f145 145 rfl rfl #[.agg #[.slice b c j,.slice i m o]] w R:=wk Tryz.func145
def xW:Wk ⟨⟨[(5,[(51,.int .i64 0)])],[(4,[(6,.pointer (some ⟨0,0,none⟩)),(7,.pointer (some ⟨0,0,none⟩))]),(13,[])],[3,10,15,16],[],[(1,⟨[0,1,2,4,0,16,0,64,0,256,0,1024,2728,4096],[16383,16382,16381,16379,16383,16367,16383,16319,16383,16127,16383,15359,13655,12287],[0,0,0,1,0,1,0,1,0,1,0,1,2,0]⟩),(3,⟨[0,1,2,4,8,0,32,80,128,0,512,0,2048,5120,0,16384,40960,0,0,393727,1048575],[2097151,2097150,2097149,2097147,2097143,2097151,2097119,2097071,2097023,2097151,2096639,2097151,2095103,2092031,2097151,2080767,2056191,2097151,2097151,1965823,1769471],[0,0,0,0,1,0,1,0,1,0,1,0,1,0,0,1,0,2,2,2,2]⟩),(10,⟨[0,1,2,4,0,16,40,64,128,128,0,1535,4095],[8191,8190,8189,8187,8191,8175,8151,8127,8063,8063,8191,6911,7679],[0,0,0,1,0,1,1,0,0,0,2,2,0]⟩),(15,⟨[0,1,2,4,0,16,0,64,128,0,0,1024,0,4096,0,16384,0,65536,174592,262400,1048575],[2097151,2097150,2097149,2097147,2097151,2097135,2097151,2097087,2097023,2097151,2097151,2096127,2097151,2093055,2097151,2080767,2097151,2031615,1922559,1834751,1572823],[0,0,0,1,0,1,0,1,0,1,0,1,0,1,0,1,0,1,2,0,2]⟩),(16,⟨[0,1,2,4,0,0,32,127,128,448,128,2047],[4095,4094,4093,4091,4095,4095,4063,4071,3967,3775,3967,2551],[0,0,0,1,1,1,2,2,0,2,0,2]⟩)]⟩,true,[120]⟩ Tryz.f146 146 rfl rfl #[.pointer b,.agg #[.ii a,.ii h,.ii l,.slice i c j,.ii n,.ii p,.ii r,.ii t,.ii u,.ii v]] w R:=wk Tryz.func146
def EA:Wk N1_ Tryz.f147 147 rfl rfl #[.agg #[.ii a,.ii h,.ii l,.slice b c j,.ii n,.ii p,.ii r,.ii t,.ii u,.ii v]] w R:=wk Tryz.func147
def BV:Wk ⟨⟨[],[],[],[],[(4,⟨[0,1,2,6,8,24,40,8,136,328,520,1032],[4095,4094,4093,4091,4087,4071,4055,4087,3959,3767,3575,3071],[0,2,0,0,0,0,1,0,1,0,0,0]⟩)]⟩,true,[]⟩ Tryz.f151 151 rfl rfl #[.agg #[.slice b c j,.slice i m o],.ii a,.ii h,.ii l,.ii n] w R:=wk Tryz.func151
def py:Wk N1_ Tryz.f152 152 rfl rfl #[.agg #[.ii a,.ii h,.ii l,.slice b c j,.ii n,.ii p,.ii r,.ii t,.ii u,.ii v],.pointer (some ⟨m,o,none⟩)] w R:=wk Tryz.func152
def EB:Wk ⟨⟨[(3,[(11,.int .i64 0)])],[],[5],[],[(5,⟨[0,1,0,0,8,0,48,64,128,256,1023,2047,3071],[8191,8190,8191,8191,8183,8191,8143,8127,8063,7935,8185,7167,5631],[0,1,0,0,1,0,0,0,1,2,0,0,2]⟩)]⟩,true,[]⟩ Tryz.f153 153 rfl rfl #[.agg #[.ii a,.slice b c j]] w R:=wk Tryz.func153
def Eg:Wk N1_ Tryz.f154 154 rfl rfl #[] w R:=wk Tryz.func154
def xX:Wk N0_ Tryz.f155 155 rfl rfl #[.agg #[.ii a,.ii h,.ii l,.slice b c j,.ii n,.ii p,.ii r,.ii t,.ii u,.ii v]] w R:=wk Tryz.func155
def qV:Wk N0_ Tryz.f156 156 rfl rfl #[.pointer b,.string g,.slice i c j] w R:=wk Tryz.func156
def tR:Wk ⟨⟨[],[],[],[],[(1,⟨[0,1,2,4,0,16,32,64,128,256,520,1024,2048,8191],[16383,16382,16381,16379,16383,16367,16351,16319,16255,16127,15863,15359,14335,12287],[0,0,0,1,0,0,0,1,0,0,0,1,2,0]⟩)]⟩,false,[]⟩ Tryz.f157 157 rfl rfl #[.pointer b] w R:=wk Tryz.func157
def tS:Wk N0_ Tryz.f158 158 rfl rfl #[.pointer b,.string g] w R:=wk Tryz.func158
def xY:Wk ⟨⟨[(4,[(5,.int .i64 0)])],[],[],[],[(6,⟨[0,0,3,4,8,0,0,96,128,256,528,1024,2048,2048,14336,18432,34816,2048,2048,395264,526336,1050624,2164736,4196352,8390656],[33554431,33554431,33554428,33554427,33554423,33554431,33554431,33554335,33554303,33554175,33553903,33553407,33552383,33552383,33540095,33535999,33519615,33552383,33552383,33159167,33028095,32503807,31389695,29358079,25163775],[0,0,0,0,1,0,0,0,0,1,0,0,0,0,0,0,1,0,0,0,0,1,2,0,0]⟩)]⟩,true,[]⟩ Tryz.f161 161 rfl rfl #[.slice b c j,.slice i m o] w R:=wk Tryz.func161
def zH:Wk N1_ Tryz.f162 162 rfl rfl #[.slice b c j,.func (.func d) e k] w R:=wk Tryz.func162
