import Derived.Test.YtjgjkeponbeekaaGreatDoorYdCodeA
set_option linter.all false
set_option maxRecDepth 100000
namespace Go.Proofs.YtjgjkeponbeekaaGreatDoor
open Go.ar
variable {a i m p r t v x y z A B C D E F G H:Int} {b j n q s u:Nat} {c k o:Option Addr} {d:FuncId} {e l:Array Value} {f:Option Nat} {g:ByteArray} {h:Bool}
variable {w:World} {R:Ending->World->Prop}
def zq:Wk N1_ Tryz.f97 97 rfl rfl #[.int .i64 a,.int .i64 i,.int .i64 m] w R:=wk Tryz.func97
def wW:Wk N1_ Tryz.f98 98 rfl rfl #[.agg #[.int .i64 a,.int .i64 i,.int .i64 m,.int .i64 p]] w R:=wk Tryz.func98
def wX:Wk N1_ Tryz.f99 99 rfl rfl #[.agg #[.int .i64 a,.int .i64 i,.int .i64 m,.int .i64 p],.pointer (some ⟨b,j,none⟩)] w R:=wk Tryz.func99
def Iu:Wk N1_ Tryz.f100 100 rfl rfl #[.agg #[.slice c b j],.int .i64 a,.int .i64 i] w R:=wk Tryz.func100
def fy:Wk N1_ Tryz.f101 101 rfl rfl #[.slice c b j,.func (.func d) e l] w R:=wk Tryz.func101
def iw:Wk N1_ Tryz.f102 102 rfl rfl #[.slice c b j] w R:=wk Tryz.func102
def ix:Wk N1_ Tryz.f103 103 rfl rfl #[.slice c b j] w R:=wk Tryz.func103
def gF:Wk N1_ Tryz.f104 104 rfl rfl #[.slice c b j] w R:=wk Tryz.func104
def KO:Wk ⟨⟨[],[],[],[],[]⟩,true,[3]⟩ Tryz.f106 106 rfl rfl #[.agg #[.int .i64 a,.int .i64 i,.int .i64 m,.int .i64 p,.int .i64 r]] w R:=wk Tryz.func106
def tl:Wk ⟨⟨[],[],[1],[1],[(1,⟨[0,0,2,4,8,0,0,64,128,256,544,1024,3088,8191,16383,24575],[65535,65535,65533,65531,65527,65535,65535,65471,65407,65279,64991,64511,63471,65534,57343,45055],[0,0,0,0,1,0,0,0,0,1,2,2,2,0,0,2]⟩)]⟩,true,[]⟩ Tryz.f107 107 rfl rfl #[.pointer c] w R:=wk Tryz.func107
def Du:Wk ⟨⟨[(3,[(3,.int .i64 0),(11,.int .i64 0)])],[],[],[],[]⟩,false,[]⟩ Tryz.f108 108 rfl rfl #[.pointer c] w R:=wk Tryz.func108
def zr:Wk ⟨⟨[(10,[(43,.int .i64 0)])],[],[11],[11],[]⟩,false,[]⟩ Tryz.f109 109 rfl rfl #[.pointer c] w R:=wk Tryz.func109
def uS:Wk ⟨⟨[(8,[(42,.int .i64 0)])],[],[],[],[]⟩,true,[]⟩ Tryz.f114 114 rfl rfl #[.pointer c,.agg #[.int .i64 a,.int .i64 i,.int .i64 m,.slice k b j,.int .i64 p,.int .i64 r,.int .i64 t,.int .i64 v,.int .i64 x,.int .i64 y],.int .i64 z] w R:=wk Tryz.func114
def zt:Wk N1_ Tryz.f115 115 rfl rfl #[.agg #[.int .i64 a,.int .i64 i,.int .i64 m,.slice c b j,.int .i64 p,.int .i64 r,.int .i64 t,.int .i64 v,.int .i64 x,.int .i64 y]] w R:=wk Tryz.func115
def uw:Wk ⟨⟨[(4,[(36,.int .i64 0)])],[(2,[(4,.pointer (some ⟨0,0,none⟩))]),(3,[(5,.pointer (some ⟨0,0,none⟩))]),(9,[(9,.int .i64 0)])],[1,2,11],[11],[(2,⟨[0,1,2,4,8,0,32,0,128,336,512,1024,1024,0,12287,32767],[65535,65534,65533,65531,65527,65535,65503,65535,65407,65199,65023,64511,64511,65535,55295,61439],[0,0,0,0,1,0,1,0,1,2,0,0,0,2,2,0]⟩),(9,⟨[0,1,2,4,8,0,48,64,0,0,896],[2047,2046,2045,2043,2039,2047,1999,1983,2047,2047,1151],[0,0,0,0,1,0,0,1,1,0,2]⟩),(11,⟨[0,0,2,4,8,0,32,64,208,511,1023,1535],[4095,4095,4093,4091,4087,4095,4063,4031,3951,4094,3583,2815],[0,0,0,0,1,1,2,2,2,0,0,2]⟩)]⟩,true,[72]⟩ Tryz.f117 117 rfl rfl #[.pointer c,.agg #[.int .i64 a,.int .i64 i,.int .i64 m,.slice k b j,.int .i64 p,.int .i64 r,.int .i64 t,.int .i64 v,.int .i64 x,.int .i64 y]] w R:=wk Tryz.func117
def Dw:Wk N1_ Tryz.f187 187 rfl rfl #[.int .i64 a,.pointer (some ⟨b,j,none⟩)] w R:=wk Tryz.func187
def Gq:Wk ⟨⟨[(6,[(30,.int .i64 0)])],[],[],[],[]⟩,true,[]⟩ Tryz.f188 188 rfl rfl #[.agg #[.int .i64 a,.int .i64 i,.int .i64 m,.slice c b j,.slice k n q],.int .i64 p,.int .i64 r] w R:=wk Tryz.func188
def Gr:Wk ⟨⟨[(6,[(21,.int .i64 0)])],[],[],[],[]⟩,true,[]⟩ Tryz.f189 189 rfl rfl #[.agg #[.int .i64 a,.int .i64 i,.int .i64 m,.slice c b j,.slice k n q],.int .i64 p] w R:=wk Tryz.func189
def nw:Wk ⟨⟨[(4,[(5,.slice none 0 0),(16,.int .i64 0)]),(12,[(5,.slice none 0 0)]),(16,[(5,.slice none 0 0),(50,.int .i64 0)])],[],[],[],[]⟩,true,[32,59]⟩ Tryz.f190 190 rfl rfl #[.pointer c,.slice k b j] w R:=wk Tryz.func190
def KP:Wk N1_ Tryz.f191 191 rfl rfl #[.pointer c,.int .i64 a,.int .i64 i] w R:=wk Tryz.func191
def KQ:Wk ⟨⟨[(3,[(5,.slice none 0 0),(12,.int .i64 0)])],[],[],[],[]⟩,true,[]⟩ Tryz.f192 192 rfl rfl #[.slice c b j,.slice k n q] w R:=wk Tryz.func192
def NH:Wk ⟨⟨[(3,[(5,.int .i64 0),(14,.int .i64 0)])],[],[],[],[]⟩,true,[]⟩ Tryz.f193 193 rfl rfl #[.slice c b j,.slice k n q] w R:=wk Tryz.func193
def NI:Wk N1_ Tryz.f196 196 rfl rfl #[.slice c b j,.int .i64 a] w R:=wk Tryz.func196
def qy:Wk N1_ Tryz.f123 123 rfl rfl #[.pointer c] w R:=wk Tryz.func123
def cT:Wk ⟨⟨[(1,[])],[],[],[],[]⟩,false,[]⟩ Tryz.f137 137 rfl rfl #[.map f,.func (.func d) e l] w R:=wk Tryz.func137
def qz:Wk N0_ Tryz.f138 138 rfl rfl #[.string g,.pointer c] w R:=wk Tryz.func138
def si:Wk N0_ Tryz.f141 141 rfl rfl #[.pointer c,.string g] w R:=wk Tryz.func141
def wY:Wk ⟨⟨[(3,[(4,.slice none 0 0),(11,.int .i64 0)])],[],[],[],[]⟩,false,[]⟩ Tryz.f142 142 rfl rfl #[.slice c b j] w R:=wk Tryz.func142
def uT:Wk N0_ Tryz.f144 144 rfl rfl #[.pointer c] w R:=wk Tryz.func144
def pF:Wk N0_ Tryz.f145 145 rfl rfl #[.pointer c] w R:=wk Tryz.func145
def Bm:Wk N0_ Tryz.f146 146 rfl rfl #[.int .i64 a] w R:=wk Tryz.func146
def dA:Wk N1_ Tryz.f153 153 rfl rfl #[.map f] w R:=wk Tryz.func153
def wZ:Wk ⟨⟨[],[],[1],[],[(1,⟨[0,1,0,4,10,0,32,64,0,256,512,1168,0,4096,8192,0,32768,65536,149504,264208,786432,2097151],[4194303,4194302,4194303,4194299,4194293,4194303,4194271,4194239,4194303,4194047,4193791,4193151,4194303,4190207,4186111,4194303,4161535,4128767,4046847,3930095,3670015,3145727],[0,1,0,1,2,0,0,1,0,0,1,2,0,0,1,0,0,1,2,2,2,0]⟩)]⟩,true,[]⟩ Tryz.f155 155 rfl rfl #[.agg #[.int .i64 a,.int .i64 i,.int .i64 m,.slice c b j,.int .i64 p,.int .i64 r,.int .i64 t,.int .i64 v,.int .i64 x,.int .i64 y],.agg #[.int .i64 z,.int .i64 A,.int .i64 B,.slice k n q,.int .i64 C,.int .i64 D,.int .i64 E,.int .i64 F,.int .i64 G,.int .i64 H]] w R:=wk Tryz.func155
def zu:Wk ⟨⟨[(3,[(15,.int .i64 0)]),(7,[(24,.int .i64 0)])],[],[],[],[]⟩,true,[]⟩ Tryz.f158 158 rfl rfl #[.agg #[.slice c b j,.slice k n q]] w R:=wk Tryz.func158
def Gs:Wk N1_ Tryz.f200 200 rfl rfl #[.agg #[.int .i64 a,.int .i64 i,.int .i64 m,.slice c b j,.int .i64 p,.int .i64 r,.int .i64 t,.int .i64 v,.int .i64 x,.int .i64 y]] w R:=wk Tryz.func200
def Dx:Wk ⟨⟨[],[],[],[],[(4,⟨[0,1,2,6,8,24,40,8,136,328,520,1032],[4095,4094,4093,4091,4087,4071,4055,4087,3959,3767,3575,3071],[0,2,0,0,0,0,1,0,1,0,0,0]⟩)]⟩,true,[]⟩ Tryz.f201 201 rfl rfl #[.agg #[.slice c b j,.slice k n q],.int .i64 a,.int .i64 i,.int .i64 m,.int .i64 p] w R:=wk Tryz.func201
def Gt:Wk ⟨⟨[(3,[(11,.int .i64 0)])],[],[5],[],[(5,⟨[0,1,0,0,8,0,48,64,128,256,1023,2047,3071],[8191,8190,8191,8191,8183,8191,8143,8127,8063,7935,8185,7167,5631],[0,1,0,0,1,0,0,0,1,2,0,0,2]⟩)]⟩,true,[]⟩ Tryz.f203 203 rfl rfl #[.agg #[.int .i64 a,.slice c b j]] w R:=wk Tryz.func203
def FN:Wk N1_ Tryz.f204 204 rfl rfl #[] w R:=wk Tryz.func204
def zv:Wk N0_ Tryz.f205 205 rfl rfl #[.agg #[.int .i64 a,.int .i64 i,.int .i64 m,.slice c b j,.int .i64 p,.int .i64 r,.int .i64 t,.int .i64 v,.int .i64 x,.int .i64 y]] w R:=wk Tryz.func205
def sj:Wk N0_ Tryz.f178 178 rfl rfl #[.pointer c,.string g,.slice k b j] w R:=wk Tryz.func178
def uU:Wk ⟨⟨[],[],[],[],[(1,⟨[0,1,2,4,0,16,32,64,128,256,520,1024,2048,8191],[16383,16382,16381,16379,16383,16367,16351,16319,16255,16127,15863,15359,14335,12287],[0,0,0,1,0,0,0,1,0,0,0,1,2,0]⟩)]⟩,false,[]⟩ Tryz.f206 206 rfl rfl #[.pointer c] w R:=wk Tryz.func206
def uV:Wk N0_ Tryz.f172 172 rfl rfl #[.pointer c,.string g] w R:=wk Tryz.func172
def zy:Wk ⟨⟨[(4,[(5,.int .i64 0)])],[],[],[],[(6,⟨[0,0,3,4,8,0,0,96,128,256,528,1024,2048,2048,14336,18432,34816,2048,2048,395264,526336,1050624,2164736,4196352,8390656],[33554431,33554431,33554428,33554427,33554423,33554431,33554431,33554335,33554303,33554175,33553903,33553407,33552383,33552383,33540095,33535999,33519615,33552383,33552383,33159167,33028095,32503807,31389695,29358079,25163775],[0,0,0,0,1,0,0,0,0,1,0,0,0,0,0,0,1,0,0,0,0,1,2,0,0]⟩)]⟩,true,[]⟩ Tryz.f65 65 rfl rfl #[.slice c b j,.slice k n q] w R:=wk Tryz.func65
def Bn:Wk N1_ Tryz.f147 147 rfl rfl #[.slice c b j,.func (.func d) e l] w R:=wk Tryz.func147
def zB:Wk N1_ Tryz.f148 148 rfl rfl #[.agg #[.int .i64 a,.int .i64 i,.int .i64 m,.slice c b j,.int .i64 p,.int .i64 r,.int .i64 t,.int .i64 v,.int .i64 x,.int .i64 y,.bool h,.int .i64 z,.int .i64 A],.pointer (some ⟨n,q,none⟩),.pointer (some ⟨s,u,none⟩)] w R:=wk Tryz.func148
def zD:Wk N1_ Tryz.f149 149 rfl rfl #[.agg #[.int .i64 a,.int .i64 i,.int .i64 m,.slice c b j,.int .i64 p,.int .i64 r,.int .i64 t,.int .i64 v,.int .i64 x,.int .i64 y,.bool h,.int .i64 z,.int .i64 A]] w R:=wk Tryz.func149
def Bo:Wk N1_ Tryz.f151 151 rfl rfl #[.int .i64 a,.pointer (some ⟨b,j,none⟩),.pointer (some ⟨n,q,none⟩)] w R:=wk Tryz.func151
def fX:Wk ⟨⟨[(2,[(8,.int .i64 0)])],[],[],[],[]⟩,true,[]⟩ Tryz.f157 157 rfl rfl #[.slice c b j,.func (.func d) e l] w R:=wk Tryz.func157
def tk:Wk ⟨⟨[(3,[(21,.int .i64 0)])],[(2,[(5,.pointer (some ⟨0,0,none⟩))])],[1,5],[5],[(1,⟨[0,1,2,4,0,16,32,64,136,256,0,2047],[4095,4094,4093,4091,4095,4079,4063,4031,3959,3839,4095,2559],[0,0,0,1,0,0,0,1,2,0,2,2]⟩)]⟩,true,[]⟩ Tryz.f159 159 rfl rfl #[.pointer c,.agg #[.pointer k,.slice o b j]] w R:=wk Tryz.func159
def uW:Wk N0_ Tryz.f160 160 rfl rfl #[.pointer c] w R:=wk Tryz.func160
def w_:Wk ⟨⟨[(6,[(6,.int .i64 0)])],[],[],[],[]⟩,false,[]⟩ Tryz.f161 161 rfl rfl #[.string g] w R:=wk Tryz.func161
def lN:Wk N0_ Tryz.f162 162 rfl rfl #[.pointer c,.string g] w R:=wk Tryz.func162
def Iv:Wk N0_ Tryz.f164 164 rfl rfl #[.slice c b j] w R:=wk Tryz.func164
def sk:Wk N0_ Tryz.f165 165 rfl rfl #[.pointer c,.int .i64 a] w R:=wk Tryz.func165
def uX:Wk N0_ Tryz.f166 166 rfl rfl #[.pointer c] w R:=wk Tryz.func166
def tN:Wk N0_ Tryz.f167 167 rfl rfl #[.pointer c] w R:=wk Tryz.func167
def xd:Wk N0_ Tryz.f169 169 rfl rfl #[.pointer c,.string g,.int .i64 a] w R:=wk Tryz.func169
def sq:Wk N0_ Tryz.f170 170 rfl rfl #[.pointer c,.string g] w R:=wk Tryz.func170
def xf:Wk N0_ Tryz.f174 174 rfl rfl #[.pointer c] w R:=wk Tryz.func174
def tO:Wk N0_ Tryz.f175 175 rfl rfl #[.pointer (some ⟨b,j,none⟩)] w R:=wk Tryz.func175
def tP:Wk N0_ Tryz.f176 176 rfl rfl #[.pointer (some ⟨b,j,none⟩)] w R:=wk Tryz.func176
def tQ:Wk ⟨⟨[],[],[1],[],[]⟩,false,[]⟩ Tryz.f177 177 rfl rfl #[.pointer (some ⟨b,j,none⟩),.pointer (some ⟨n,q,none⟩)] w R:=wk Tryz.func177
