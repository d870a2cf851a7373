import Derived.Test.YtfchlbaidamodaaGreatDoorYcCodeA
set_option linter.all false
set_option maxRecDepth 100000
namespace Go.Proofs.YtfchlbaidamodaaGreatDoor
open Go.ax
variable {a i:Option Addr} {b j m o q s:Nat} {c k n p r t u v x y z A B C D E F G:Int} {d:FuncId} {e l:Array Value} {f:Option Nat} {g:ByteArray} {h:Bool}
variable {w:World} {R:Ending->World->Prop}
def oO:Wk N0_ Tryz.f96 96 rfl rfl #[.slice a b j] w R:=wk Tryz.func96
def LI:Wk N1_ Tryz.f78 78 rfl rfl #[.agg #[.slice a b j,.slice i m o]] w R:=wk Tryz.func78
def Am:Wk ⟨⟨[],[],[2,3],[2],[(2,⟨[0,0,2,4,8,0,32,0,0,448,512,1104,4095,8191,12287],[32767,32767,32765,32763,32759,32767,32735,32767,32767,32319,32255,31727,32766,28671,22527],[0,0,0,0,1,1,2,0,1,0,2,2,0,0,2]⟩)]⟩,true,[20,29]⟩ Tryz.f79 79 rfl rfl #[.pointer a,.agg #[.int .i64 c,.int .i64 k,.int .i64 n,.slice i b j,.int .i64 p,.int .i64 r,.int .i64 t,.int .i64 u,.int .i64 v,.int .i64 x]] w R:=wk Tryz.func79
def Ae:Wk N1_ Tryz.f82 82 rfl rfl #[.agg #[.slice a b j,.slice i m o],.agg #[.int .i64 c,.int .i64 k,.int .i64 n,.int .i64 p,.int .i64 r,.int .i64 t,.int .i64 u]] w R:=wk Tryz.func82
def vR:Wk N1_ Tryz.f84 84 rfl rfl #[.pointer a,.int .i64 c,.int .i64 k] w R:=wk Tryz.func84
def Lr:Wk N1_ Tryz.f85 85 rfl rfl #[.agg #[.slice a b j]] w R:=wk Tryz.func85
def xY:Wk N1_ Tryz.f90 90 rfl rfl #[.pointer a] w R:=wk Tryz.func90
def tg:Wk ⟨⟨[(3,[(5,.slice none 0 0),(14,.int .i64 0)])],[(16,[])],[16],[],[]⟩,false,[]⟩ Tryz.f91 91 rfl rfl #[.pointer a,.slice i b j] w R:=wk Tryz.func91
def vS:Wk ⟨⟨[],[],[1],[],[]⟩,false,[]⟩ Tryz.f92 92 rfl rfl #[.pointer a] w R:=wk Tryz.func92
def oP:Wk ⟨⟨[(3,[(22,.int .i64 0)])],[],[],[],[]⟩,true,[]⟩ Tryz.f93 93 rfl rfl #[.pointer a,.slice i b j] w R:=wk Tryz.func93
def Ao:Wk N1_ Tryz.f97 97 rfl rfl #[.agg #[.int .i64 c,.slice a b j],.agg #[.int .i64 k,.slice i m o]] w R:=wk Tryz.func97
def BT:Wk ⟨⟨[(4,[(5,.int .i64 0)])],[],[],[],[]⟩,true,[]⟩ Tryz.f99 99 rfl rfl #[.slice a b j,.slice i m o] w R:=wk Tryz.func99
def Hp:Wk N1_ Tryz.f101 101 rfl rfl #[.slice a b j,.int .i64 c,.int .i64 k] w R:=wk Tryz.func101
def Ap:Wk N1_ Tryz.f125 125 rfl rfl #[.int .i64 c,.int .i64 k,.int .i64 n] w R:=wk Tryz.func125
def xZ:Wk N1_ Tryz.f126 126 rfl rfl #[.agg #[.int .i64 c,.int .i64 k,.int .i64 n,.int .i64 p]] w R:=wk Tryz.func126
def x_:Wk N1_ Tryz.f127 127 rfl rfl #[.agg #[.int .i64 c,.int .i64 k,.int .i64 n,.int .i64 p],.pointer (some ⟨b,j,none⟩)] w R:=wk Tryz.func127
def Ji:Wk N1_ Tryz.f128 128 rfl rfl #[.agg #[.slice a b j],.int .i64 c,.int .i64 k] w R:=wk Tryz.func128
def fO:Wk N1_ Tryz.f129 129 rfl rfl #[.slice a b j,.func (.func d) e l] w R:=wk Tryz.func129
def iN:Wk N1_ Tryz.f130 130 rfl rfl #[.slice a b j] w R:=wk Tryz.func130
def iO:Wk N1_ Tryz.f131 131 rfl rfl #[.slice a b j] w R:=wk Tryz.func131
def gW:Wk N1_ Tryz.f132 132 rfl rfl #[.slice a b j] w R:=wk Tryz.func132
def LJ:Wk ⟨⟨[],[],[],[],[]⟩,true,[3]⟩ Tryz.f133 133 rfl rfl #[.agg #[.int .i64 c,.int .i64 k,.int .i64 n,.int .i64 p,.int .i64 r]] w R:=wk Tryz.func133
def ug:Wk ⟨⟨[],[],[1],[1],[(1,⟨[0,0,2,4,8,0,0,64,128,256,544,1024,3088,8191,16383,24575],[65535,65535,65533,65531,65527,65535,65535,65471,65407,65279,64991,64511,63471,65534,57343,45055],[0,0,0,0,1,0,0,0,0,1,2,2,2,0,0,2]⟩)]⟩,true,[]⟩ Tryz.f134 134 rfl rfl #[.pointer a] w R:=wk Tryz.func134
def Ey:Wk ⟨⟨[(3,[(3,.int .i64 0),(11,.int .i64 0)])],[],[],[],[]⟩,false,[]⟩ Tryz.f135 135 rfl rfl #[.pointer a] w R:=wk Tryz.func135
def Aq:Wk ⟨⟨[(10,[(43,.int .i64 0)])],[],[11],[11],[]⟩,false,[]⟩ Tryz.f136 136 rfl rfl #[.pointer a] w R:=wk Tryz.func136
def vT:Wk ⟨⟨[(8,[(42,.int .i64 0)])],[],[],[],[]⟩,true,[]⟩ Tryz.f141 141 rfl rfl #[.pointer a,.agg #[.int .i64 c,.int .i64 k,.int .i64 n,.slice i b j,.int .i64 p,.int .i64 r,.int .i64 t,.int .i64 u,.int .i64 v,.int .i64 x],.int .i64 y] w R:=wk Tryz.func141
def Ar:Wk N1_ Tryz.f142 142 rfl rfl #[.agg #[.int .i64 c,.int .i64 k,.int .i64 n,.slice a b j,.int .i64 p,.int .i64 r,.int .i64 t,.int .i64 u,.int .i64 v,.int .i64 x]] w R:=wk Tryz.func142
def vD:Wk ⟨⟨[(4,[(36,.int .i64 0)])],[(2,[(4,.pointer (some ⟨0,0,none⟩))]),(3,[(5,.pointer (some ⟨0,0,none⟩))]),(9,[(9,.int .i64 0)])],[1,2,11],[11],[(2,⟨[0,1,2,4,8,0,32,0,128,336,512,1024,1024,0,12287,32767],[65535,65534,65533,65531,65527,65535,65503,65535,65407,65199,65023,64511,64511,65535,55295,61439],[0,0,0,0,1,0,1,0,1,2,0,0,0,2,2,0]⟩),(9,⟨[0,1,2,4,8,0,48,64,0,0,896],[2047,2046,2045,2043,2039,2047,1999,1983,2047,2047,1151],[0,0,0,0,1,0,0,1,1,0,2]⟩),(11,⟨[0,0,2,4,8,0,32,64,208,511,1023,1535],[4095,4095,4093,4091,4087,4095,4063,4031,3951,4094,3583,2815],[0,0,0,0,1,1,2,2,2,0,0,2]⟩)]⟩,true,[72]⟩ Tryz.f144 144 rfl rfl #[.pointer a,.agg #[.int .i64 c,.int .i64 k,.int .i64 n,.slice i b j,.int .i64 p,.int .i64 r,.int .i64 t,.int .i64 u,.int .i64 v,.int .i64 x]] w R:=wk Tryz.func144
def Ez:Wk N1_ Tryz.f103 103 rfl rfl #[.int .i64 c,.pointer (some ⟨b,j,none⟩)] w R:=wk Tryz.func103
def Hq:Wk ⟨⟨[(6,[(30,.int .i64 0)])],[],[],[],[]⟩,true,[]⟩ Tryz.f104 104 rfl rfl #[.agg #[.int .i64 c,.int .i64 k,.int .i64 n,.slice a b j,.slice i m o],.int .i64 p,.int .i64 r] w R:=wk Tryz.func104
def Hr:Wk ⟨⟨[(6,[(21,.int .i64 0)])],[],[],[],[]⟩,true,[]⟩ Tryz.f105 105 rfl rfl #[.agg #[.int .i64 c,.int .i64 k,.int .i64 n,.slice a b j,.slice i m o],.int .i64 p] w R:=wk Tryz.func105
def nI:Wk ⟨⟨[(4,[(5,.slice none 0 0),(16,.int .i64 0)]),(12,[(5,.slice none 0 0)]),(16,[(5,.slice none 0 0),(50,.int .i64 0)])],[],[],[],[]⟩,true,[32,59]⟩ Tryz.f106 106 rfl rfl #[.pointer a,.slice i b j] w R:=wk Tryz.func106
def LK:Wk N1_ Tryz.f107 107 rfl rfl #[.pointer a,.int .i64 c,.int .i64 k] w R:=wk Tryz.func107
def LM:Wk ⟨⟨[(3,[(5,.slice none 0 0),(12,.int .i64 0)])],[],[],[],[]⟩,true,[]⟩ Tryz.f108 108 rfl rfl #[.slice a b j,.slice i m o] w R:=wk Tryz.func108
def Pn:Wk ⟨⟨[(3,[(5,.int .i64 0),(14,.int .i64 0)])],[],[],[],[]⟩,true,[]⟩ Tryz.f109 109 rfl rfl #[.slice a b j,.slice i m o] w R:=wk Tryz.func109
def Po:Wk N1_ Tryz.f112 112 rfl rfl #[.slice a b j,.int .i64 c] w R:=wk Tryz.func112
def As:Wk N0_ Tryz.f50 50 rfl rfl #[.agg #[.int .i64 c,.int .i64 k,.int .i64 n,.slice a b j,.int .i64 p,.int .i64 r,.int .i64 t,.int .i64 u,.int .i64 v,.int .i64 x]] w R:=wk Tryz.func50
def qZ:Wk N1_ Tryz.f168 168 rfl rfl #[.pointer a] w R:=wk Tryz.func168
def dE:Wk ⟨⟨[(1,[])],[],[],[],[]⟩,false,[]⟩ Tryz.f121 121 rfl rfl #[.map f,.func (.func d) e l] w R:=wk Tryz.func121
def q_:Wk N0_ Tryz.f122 122 rfl rfl #[.string g,.pointer a] w R:=wk Tryz.func122
def th:Wk N0_ Tryz.f119 119 rfl rfl #[.pointer a,.string g] w R:=wk Tryz.func119
def yb:Wk ⟨⟨[(3,[(4,.slice none 0 0),(11,.int .i64 0)])],[],[],[],[]⟩,false,[]⟩ Tryz.f115 115 rfl rfl #[.slice a b j] w R:=wk Tryz.func115
def vU:Wk N0_ Tryz.f117 117 rfl rfl #[.pointer a] w R:=wk Tryz.func117
def qf:Wk N0_ Tryz.f118 118 rfl rfl #[.pointer a] w R:=wk Tryz.func118
def BU:Wk N0_ Tryz.f120 120 rfl rfl #[.int .i64 c] w R:=wk Tryz.func120
def eu:Wk N1_ Tryz.f148 148 rfl rfl #[.map f] w R:=wk Tryz.func148
def yd:Wk ⟨⟨[],[],[1],[],[(1,⟨[0,1,0,4,10,0,32,64,0,256,512,1168,0,4096,8192,0,32768,65536,149504,264208,786432,2097151],[4194303,4194302,4194303,4194299,4194293,4194303,4194271,4194239,4194303,4194047,4193791,4193151,4194303,4190207,4186111,4194303,4161535,4128767,4046847,3930095,3670015,3145727],[0,1,0,1,2,0,0,1,0,0,1,2,0,0,1,0,0,1,2,2,2,0]⟩)]⟩,true,[]⟩ Tryz.f150 150 rfl rfl #[.agg #[.int .i64 c,.int .i64 k,.int .i64 n,.slice a b j,.int .i64 p,.int .i64 r,.int .i64 t,.int .i64 u,.int .i64 v,.int .i64 x],.agg #[.int .i64 y,.int .i64 z,.int .i64 A,.slice i m o,.int .i64 B,.int .i64 C,.int .i64 D,.int .i64 E,.int .i64 F,.int .i64 G]] w R:=wk Tryz.func150
def Au:Wk ⟨⟨[(3,[(15,.int .i64 0)]),(7,[(24,.int .i64 0)])],[],[],[],[]⟩,true,[]⟩ Tryz.f145 145 rfl rfl #[.agg #[.slice a b j,.slice i m o]] w R:=wk Tryz.func145
def Hs:Wk N1_ Tryz.f147 147 rfl rfl #[.agg #[.int .i64 c,.int .i64 k,.int .i64 n,.slice a b j,.int .i64 p,.int .i64 r,.int .i64 t,.int .i64 u,.int .i64 v,.int .i64 x]] w R:=wk Tryz.func147
def EA:Wk ⟨⟨[],[],[],[],[(4,⟨[0,1,2,6,8,24,40,8,136,328,520,1032],[4095,4094,4093,4091,4087,4071,4055,4087,3959,3767,3575,3071],[0,2,0,0,0,0,1,0,1,0,0,0]⟩)]⟩,true,[]⟩ Tryz.f151 151 rfl rfl #[.agg #[.slice a b j,.slice i m o],.int .i64 c,.int .i64 k,.int .i64 n,.int .i64 p] w R:=wk Tryz.func151
def Ht:Wk ⟨⟨[(3,[(11,.int .i64 0)])],[],[5],[],[(5,⟨[0,1,0,0,8,0,48,64,128,256,1023,2047,3071],[8191,8190,8191,8191,8183,8191,8143,8127,8063,7935,8185,7167,5631],[0,1,0,0,1,0,0,0,1,2,0,0,2]⟩)]⟩,true,[]⟩ Tryz.f153 153 rfl rfl #[.agg #[.int .i64 c,.slice a b j]] w R:=wk Tryz.func153
def G_:Wk N1_ Tryz.f154 154 rfl rfl #[] w R:=wk Tryz.func154
def Av:Wk N0_ Tryz.f155 155 rfl rfl #[.agg #[.int .i64 c,.int .i64 k,.int .i64 n,.slice a b j,.int .i64 p,.int .i64 r,.int .i64 t,.int .i64 u,.int .i64 v,.int .i64 x]] w R:=wk Tryz.func155
def tj:Wk N0_ Tryz.f156 156 rfl rfl #[.pointer a,.string g,.slice i b j] w R:=wk Tryz.func156
def vV:Wk ⟨⟨[],[],[],[],[(1,⟨[0,1,2,4,0,16,32,64,128,256,520,1024,2048,8191],[16383,16382,16381,16379,16383,16367,16351,16319,16255,16127,15863,15359,14335,12287],[0,0,0,1,0,0,0,1,0,0,0,1,2,0]⟩)]⟩,false,[]⟩ Tryz.f157 157 rfl rfl #[.pointer a] w R:=wk Tryz.func157
def vW:Wk N0_ Tryz.f158 158 rfl rfl #[.pointer a,.string g] w R:=wk Tryz.func158
def Aw:Wk ⟨⟨[(4,[(5,.int .i64 0)])],[],[],[],[(6,⟨[0,0,3,4,8,0,0,96,128,256,528,1024,2048,2048,14336,18432,34816,2048,2048,395264,526336,1050624,2164736,4196352,8390656],[33554431,33554431,33554428,33554427,33554423,33554431,33554431,33554335,33554303,33554175,33553903,33553407,33552383,33552383,33540095,33535999,33519615,33552383,33552383,33159167,33028095,32503807,31389695,29358079,25163775],[0,0,0,0,1,0,0,0,0,1,0,0,0,0,0,0,1,0,0,0,0,1,2,0,0]⟩)]⟩,true,[]⟩ Tryz.f159 159 rfl rfl #[.slice a b j,.slice i m o] w R:=wk Tryz.func159
def BV:Wk N1_ Tryz.f160 160 rfl rfl #[.slice a b j,.func (.func d) e l] w R:=wk Tryz.func160
def Ax:Wk N1_ Tryz.f161 161 rfl rfl #[.agg #[.int .i64 c,.int .i64 k,.int .i64 n,.slice a b j,.int .i64 p,.int .i64 r,.int .i64 t,.int .i64 u,.int .i64 v,.int .i64 x,.bool h,.int .i64 y,.int .i64 z],.pointer (some ⟨m,o,none⟩),.pointer (some ⟨q,s,none⟩)] w R:=wk Tryz.func161
def Ay:Wk N1_ Tryz.f162 162 rfl rfl #[.agg #[.int .i64 c,.int .i64 k,.int .i64 n,.slice a b j,.int .i64 p,.int .i64 r,.int .i64 t,.int .i64 u,.int .i64 v,.int .i64 x,.bool h,.int .i64 y,.int .i64 z]] w R:=wk Tryz.func162
end Go.Proofs.YtfchlbaidamodaaGreatDoor
