import Derived.Test.YtkpomgifkloklaaGreatDoorYeCodeA
set_option linter.all false
set_option maxRecDepth 100000
namespace Go.Proofs.YtkpomgifkloklaaGreatDoor
open Go.aw
variable {a i m:Option Addr} {b j n p r t:Nat} {c k o q s u v x y z A B C D E F G H:Int} {d:FuncId} {e l:Array Value} {f:Option Nat} {g:ByteArray} {h:Bool}
variable {w:World} {R:Ending->World->Prop}
def GV:Wk N1_ Tryz.f83 83 rfl rfl #[.slice a b j,.ii c,.ii k] w R:=wk Tryz.func83
def zV:Wk N1_ Tryz.f140 140 rfl rfl #[.ii c,.ii k,.ii o] w R:=wk Tryz.func140
def xN:Wk N1_ Tryz.f141 141 rfl rfl #[.agg #[.ii c,.ii k,.ii o,.ii q]] w R:=wk Tryz.func141
def xO:Wk N1_ Tryz.f142 142 rfl rfl #[.agg #[.ii c,.ii k,.ii o,.ii q],.pointer (some ⟨b,j,none⟩)] w R:=wk Tryz.func142
def I_:Wk N1_ Tryz.f143 143 rfl rfl #[.agg #[.slice a b j],.ii c,.ii k] w R:=wk Tryz.func143
def f_:Wk N1_ Tryz.f144 144 rfl rfl #[.slice a b j,.func (.func d) e l] w R:=wk Tryz.func144
def i_:Wk N1_ Tryz.f145 145 rfl rfl #[.slice a b j] w R:=wk Tryz.func145
def jb:Wk N1_ Tryz.f146 146 rfl rfl #[.slice a b j] w R:=wk Tryz.func146
def ij:Wk N1_ Tryz.f147 147 rfl rfl #[.slice a b j] w R:=wk Tryz.func147
def LY:Wk ⟨⟨[],[],[],[],[]⟩,true,[3]⟩ Tryz.f148 148 rfl rfl #[.agg #[.ii c,.ii k,.ii o,.ii q,.ii s]] w R:=wk Tryz.func148
def tX:Wk ⟨⟨[],[],[1],[1],[(1,⟨[0,0,2,4,8,0,0,64,128,256,544,1024,3088,8191,16383,24575],[65535,65535,65533,65531,65527,65535,65535,65471,65407,65279,64991,64511,63471,65534,57343,45055],[0,0,0,0,1,0,0,0,0,1,2,2,2,0,0,2]⟩)]⟩,true,[]⟩ Tryz.f149 149 rfl rfl #[.pointer a] w R:=wk Tryz.func149
def DS:Wk ⟨⟨[(3,[(3,.int .i64 0),(11,.int .i64 0)])],[],[],[],[]⟩,false,[]⟩ Tryz.f150 150 rfl rfl #[.pointer a] w R:=wk Tryz.func150
def zW:Wk ⟨⟨[(10,[(43,.int .i64 0)])],[],[11],[11],[]⟩,false,[]⟩ Tryz.f151 151 rfl rfl #[.pointer a] w R:=wk Tryz.func151
def DT:Wk N1_ Tryz.f155 155 rfl rfl #[.agg #[.ii c,.ii k,.ii o,.slice a b j,.ii q,.ii s,.ii u,.ii v,.ii x,.ii y],.ii z] w R:=wk Tryz.func155
def vM:Wk ⟨⟨[(8,[(42,.int .i64 0)])],[],[],[],[]⟩,true,[]⟩ Tryz.f156 156 rfl rfl #[.pointer a,.agg #[.ii c,.ii k,.ii o,.slice i b j,.ii q,.ii s,.ii u,.ii v,.ii x,.ii y],.ii z] w R:=wk Tryz.func156
def zY:Wk N1_ Tryz.f137 137 rfl rfl #[.agg #[.ii c,.ii k,.ii o,.slice a b j,.ii q,.ii s,.ii u,.ii v,.ii x,.ii y]] w R:=wk Tryz.func137
def vi:Wk ⟨⟨[(4,[(36,.int .i64 0)])],[(2,[(4,.pointer (some ⟨0,0,none⟩))]),(3,[(5,.pointer (some ⟨0,0,none⟩))]),(9,[(9,.int .i64 0)])],[1,2,11],[11],[(2,⟨[0,1,2,4,8,0,32,0,128,336,512,1024,1024,0,12287,32767],[65535,65534,65533,65531,65527,65535,65503,65535,65407,65199,65023,64511,64511,65535,55295,61439],[0,0,0,0,1,0,1,0,1,2,0,0,0,2,2,0]⟩),(9,⟨[0,1,2,4,8,0,48,64,0,0,896],[2047,2046,2045,2043,2039,2047,1999,1983,2047,2047,1151],[0,0,0,0,1,0,0,1,1,0,2]⟩),(11,⟨[0,0,2,4,8,0,32,64,208,511,1023,1535],[4095,4095,4093,4091,4087,4095,4063,4031,3951,4094,3583,2815],[0,0,0,0,1,1,2,2,2,0,0,2]⟩)]⟩,true,[72]⟩ Tryz.f158 158 rfl rfl #[.pointer a,.agg #[.ii c,.ii k,.ii o,.slice i b j,.ii q,.ii s,.ii u,.ii v,.ii x,.ii y]] w R:=wk Tryz.func158
def DU:Wk N1_ Tryz.f159 159 rfl rfl #[.ii c,.pointer (some ⟨b,j,none⟩)] w R:=wk Tryz.func159
def GW:Wk ⟨⟨[(6,[(30,.int .i64 0)])],[],[],[],[]⟩,true,[]⟩ Tryz.f160 160 rfl rfl #[.agg #[.ii c,.ii k,.ii o,.slice a b j,.slice i n p],.ii q,.ii s] w R:=wk Tryz.func160
def GX:Wk ⟨⟨[(6,[(21,.int .i64 0)])],[],[],[],[]⟩,true,[]⟩ Tryz.f161 161 rfl rfl #[.agg #[.ii c,.ii k,.ii o,.slice a b j,.slice i n p],.ii q] w R:=wk Tryz.func161
def oy:Wk ⟨⟨[(4,[(5,.slice none 0 0),(16,.int .i64 0)]),(12,[(5,.slice none 0 0)]),(16,[(5,.slice none 0 0),(50,.int .i64 0)])],[],[],[],[]⟩,true,[32,59]⟩ Tryz.f162 162 rfl rfl #[.pointer a,.slice i b j] w R:=wk Tryz.func162
def LZ:Wk N1_ Tryz.f163 163 rfl rfl #[.pointer a,.ii c,.ii k] w R:=wk Tryz.func163
def L_:Wk ⟨⟨[(3,[(5,.slice none 0 0),(12,.int .i64 0)])],[],[],[],[]⟩,true,[]⟩ Tryz.f31 31 rfl rfl #[.slice a b j,.slice i n p] w R:=wk Tryz.func31
def Pl:Wk ⟨⟨[(3,[(5,.int .i64 0),(14,.int .i64 0)])],[],[],[],[]⟩,true,[]⟩ Tryz.f8 8 rfl rfl #[.slice a b j,.slice i n p] w R:=wk Tryz.func8
def px:Wk ⟨⟨[],[],[1],[],[(1,⟨[0,1,2,0,0,16,32,72,128,260,1023],[2047,2046,2045,2047,2047,2031,2015,1975,1919,1787,1535],[0,0,1,1,0,0,1,2,0,0,0]⟩)]⟩,true,[]⟩ Tryz.f165 165 rfl rfl #[.agg #[.ii c,.ii k,.ii o,.slice a b j,.ii q,.ii s,.ii u,.ii v,.ii x,.ii y],.pointer (some ⟨n,p,none⟩)] w R:=wk Tryz.func165
def Pm:Wk N1_ Tryz.f28 28 rfl rfl #[.slice a b j,.ii c] w R:=wk Tryz.func28
def ri:Wk N1_ Tryz.f105 105 rfl rfl #[.pointer a] w R:=wk Tryz.func105
def dq:Wk ⟨⟨[(1,[])],[],[],[],[]⟩,false,[]⟩ Tryz.f120 120 rfl rfl #[.map f,.func (.func d) e l] w R:=wk Tryz.func120
def rk:Wk N0_ Tryz.f121 121 rfl rfl #[.string g,.pointer a] w R:=wk Tryz.func121
def xP:Wk ⟨⟨[],[],[],[],[(0,⟨[0,0,2,4,8,0,0,64,128,256,512,1056,2048,4112,8192,32767,65535,98303],[262143,262143,262141,262139,262135,262143,262143,262079,262015,261887,261631,261087,260095,258031,253951,262142,229375,180223],[0,0,0,0,1,0,0,0,0,1,0,0,0,0,2,0,0,2]⟩)]⟩,false,[]⟩ Tryz.f122 122 rfl rfl #[.pointer a,.ii c] w R:=wk Tryz.func122
def sY:Wk N0_ Tryz.f124 124 rfl rfl #[.pointer a,.string g] w R:=wk Tryz.func124
def xQ:Wk ⟨⟨[(3,[(4,.slice none 0 0),(11,.int .i64 0)])],[],[],[],[]⟩,false,[]⟩ Tryz.f125 125 rfl rfl #[.slice a b j] w R:=wk Tryz.func125
def vN:Wk N0_ Tryz.f127 127 rfl rfl #[.pointer a] w R:=wk Tryz.func127
def qA:Wk N0_ Tryz.f128 128 rfl rfl #[.pointer a] w R:=wk Tryz.func128
def BB:Wk N0_ Tryz.f129 129 rfl rfl #[.ii c] w R:=wk Tryz.func129
def dZ:Wk N1_ Tryz.f136 136 rfl rfl #[.map f] w R:=wk Tryz.func136
def xR:Wk ⟨⟨[],[],[1],[],[(1,⟨[0,1,0,4,10,0,32,64,0,256,512,1168,0,4096,8192,0,32768,65536,149504,264208,786432,2097151],[4194303,4194302,4194303,4194299,4194293,4194303,4194271,4194239,4194303,4194047,4193791,4193151,4194303,4190207,4186111,4194303,4161535,4128767,4046847,3930095,3670015,3145727],[0,1,0,1,2,0,0,1,0,0,1,2,0,0,1,0,0,1,2,2,2,0]⟩)]⟩,true,[]⟩ Tryz.f139 139 rfl rfl #[.agg #[.ii c,.ii k,.ii o,.slice a b j,.ii q,.ii s,.ii u,.ii v,.ii x,.ii y],.agg #[.ii z,.ii A,.ii B,.slice i n p,.ii C,.ii D,.ii E,.ii F,.ii G,.ii H]] w R:=wk Tryz.func139
def zZ:Wk ⟨⟨[(3,[(15,.int .i64 0)]),(7,[(24,.int .i64 0)])],[],[],[],[]⟩,true,[]⟩ Tryz.f168 168 rfl rfl #[.agg #[.slice a b j,.slice i n p]] w R:=wk Tryz.func168
def z_:Wk ⟨⟨[(5,[(51,.int .i64 0)])],[(4,[(6,.pointer (some ⟨0,0,none⟩)),(7,.pointer (some ⟨0,0,none⟩))]),(13,[])],[3,10,15,16],[],[(1,⟨[0,1,2,4,0,16,0,64,0,256,0,1024,2728,4096],[16383,16382,16381,16379,16383,16367,16383,16319,16383,16127,16383,15359,13655,12287],[0,0,0,1,0,1,0,1,0,1,0,1,2,0]⟩),(3,⟨[0,1,2,4,8,0,32,80,128,0,512,0,2048,5120,0,16384,40960,0,0,393727,1048575],[2097151,2097150,2097149,2097147,2097143,2097151,2097119,2097071,2097023,2097151,2096639,2097151,2095103,2092031,2097151,2080767,2056191,2097151,2097151,1965823,1769471],[0,0,0,0,1,0,1,0,1,0,1,0,1,0,0,1,0,2,2,2,2]⟩),(10,⟨[0,1,2,4,0,16,40,64,128,128,0,1535,4095],[8191,8190,8189,8187,8191,8175,8151,8127,8063,8063,8191,6911,7679],[0,0,0,1,0,1,1,0,0,0,2,2,0]⟩),(15,⟨[0,1,2,4,0,16,0,64,128,0,0,1024,0,4096,0,16384,0,65536,174592,262400,1048575],[2097151,2097150,2097149,2097147,2097151,2097135,2097151,2097087,2097023,2097151,2097151,2096127,2097151,2093055,2097151,2080767,2097151,2031615,1922559,1834751,1572823],[0,0,0,1,0,1,0,1,0,1,0,1,0,1,0,1,0,1,2,0,2]⟩),(16,⟨[0,1,2,4,0,0,32,127,128,448,128,2047],[4095,4094,4093,4091,4095,4095,4063,4071,3967,3775,3967,2551],[0,0,0,1,1,1,2,2,0,2,0,2]⟩)]⟩,true,[120]⟩ Tryz.f169 169 rfl rfl #[.pointer a,.agg #[.ii c,.ii k,.ii o,.slice i b j,.ii q,.ii s,.ii u,.ii v,.ii x,.ii y]] w R:=wk Tryz.func169
def GY:Wk N1_ Tryz.f170 170 rfl rfl #[.agg #[.ii c,.ii k,.ii o,.slice a b j,.ii q,.ii s,.ii u,.ii v,.ii x,.ii y]] w R:=wk Tryz.func170
def DV:Wk ⟨⟨[],[],[],[],[(4,⟨[0,1,2,6,8,24,40,8,136,328,520,1032],[4095,4094,4093,4091,4087,4071,4055,4087,3959,3767,3575,3071],[0,2,0,0,0,0,1,0,1,0,0,0]⟩)]⟩,true,[]⟩ Tryz.f171 171 rfl rfl #[.agg #[.slice a b j,.slice i n p],.ii c,.ii k,.ii o,.ii q] w R:=wk Tryz.func171
def rl:Wk N1_ Tryz.f172 172 rfl rfl #[.agg #[.ii c,.ii k,.ii o,.slice a b j,.ii q,.ii s,.ii u,.ii v,.ii x,.ii y],.pointer (some ⟨n,p,none⟩)] w R:=wk Tryz.func172
def GZ:Wk ⟨⟨[(3,[(11,.int .i64 0)])],[],[5],[],[(5,⟨[0,1,0,0,8,0,48,64,128,256,1023,2047,3071],[8191,8190,8191,8191,8183,8191,8143,8127,8063,7935,8185,7167,5631],[0,1,0,0,1,0,0,0,1,2,0,0,2]⟩)]⟩,true,[]⟩ Tryz.f173 173 rfl rfl #[.agg #[.ii c,.slice a b j]] w R:=wk Tryz.func173
def Gx:Wk N1_ Tryz.f174 174 rfl rfl #[] w R:=wk Tryz.func174
def Aa:Wk N0_ Tryz.f175 175 rfl rfl #[.agg #[.ii c,.ii k,.ii o,.slice a b j,.ii q,.ii s,.ii u,.ii v,.ii x,.ii y]] w R:=wk Tryz.func175
def sZ:Wk N0_ Tryz.f176 176 rfl rfl #[.pointer a,.string g,.slice i b j] w R:=wk Tryz.func176
def vO:Wk ⟨⟨[],[],[],[],[(1,⟨[0,1,2,4,0,16,32,64,128,256,520,1024,2048,8191],[16383,16382,16381,16379,16383,16367,16351,16319,16255,16127,15863,15359,14335,12287],[0,0,0,1,0,0,0,1,0,0,0,1,2,0]⟩)]⟩,false,[]⟩ Tryz.f177 177 rfl rfl #[.pointer a] w R:=wk Tryz.func177
def vP:Wk N0_ Tryz.f178 178 rfl rfl #[.pointer a,.string g] w R:=wk Tryz.func178
def Ab:Wk ⟨⟨[(4,[(5,.int .i64 0)])],[],[],[],[(6,⟨[0,0,3,4,8,0,0,96,128,256,528,1024,2048,2048,14336,18432,34816,2048,2048,395264,526336,1050624,2164736,4196352,8390656],[33554431,33554431,33554428,33554427,33554423,33554431,33554431,33554335,33554303,33554175,33553903,33553407,33552383,33552383,33540095,33535999,33519615,33552383,33552383,33159167,33028095,32503807,31389695,29358079,25163775],[0,0,0,0,1,0,0,0,0,1,0,0,0,0,0,0,1,0,0,0,0,1,2,0,0]⟩)]⟩,true,[]⟩ Tryz.f98 98 rfl rfl #[.slice a b j,.slice i n p] w R:=wk Tryz.func98
def BC:Wk N1_ Tryz.f130 130 rfl rfl #[.slice a b j,.func (.func d) e l] w R:=wk Tryz.func130
def Ac:Wk N1_ Tryz.f131 131 rfl rfl #[.agg #[.ii c,.ii k,.ii o,.slice a b j,.ii q,.ii s,.ii u,.ii v,.ii x,.ii y,.bool h,.ii z,.ii A],.pointer (some ⟨n,p,none⟩),.pointer (some ⟨r,t,none⟩)] w R:=wk Tryz.func131
def Ad:Wk N1_ Tryz.f132 132 rfl rfl #[.agg #[.ii c,.ii k,.ii o,.slice a b j,.ii q,.ii s,.ii u,.ii v,.ii x,.ii y,.bool h,.ii z,.ii A]] w R:=wk Tryz.func132
def BD:Wk N1_ Tryz.f134 134 rfl rfl #[.ii c,.pointer (some ⟨b,j,none⟩),.pointer (some ⟨n,p,none⟩)] w R:=wk Tryz.func134
def gK:Wk ⟨⟨[(2,[(8,.int .i64 0)])],[],[],[],[]⟩,true,[]⟩ Tryz.f196 196 rfl rfl #[.slice a b j,.func (.func d) e l] w R:=wk Tryz.func196
def tW:Wk ⟨⟨[(3,[(21,.int .i64 0)])],[(2,[(5,.pointer (some ⟨0,0,none⟩))])],[1,5],[5],[(1,⟨[0,1,2,4,0,16,32,64,136,256,0,2047],[4095,4094,4093,4091,4095,4079,4063,4031,3959,3839,4095,2559],[0,0,0,1,0,0,0,1,2,0,2,2]⟩)]⟩,true,[]⟩ Tryz.f197 197 rfl rfl #[.pointer a,.agg #[.pointer i,.slice m b j]] w R:=wk Tryz.func197
def vQ:Wk N0_ Tryz.f181 181 rfl rfl #[.pointer a] w R:=wk Tryz.func181
def xS:Wk ⟨⟨[(6,[(6,.int .i64 0)])],[],[],[],[]⟩,false,[]⟩ Tryz.f182 182 rfl rfl #[.string g] w R:=wk Tryz.func182
def mN:Wk N0_ Tryz.f198 198 rfl rfl #[.pointer a,.string g] w R:=wk Tryz.func198
def Ja:Wk ⟨⟨[],[],[4],[],[(4,⟨[0,1,2,4,0,0,32,80,128,264,0,1024,2048,1023,16383,32767],[65535,65534,65533,65531,65535,65535,65503,65455,65407,65271,65535,64511,63487,65023,61439,65535],[0,0,1,0,0,0,0,0,2,0,0,0,0,2,0,0]⟩)]⟩,false,[]⟩ Tryz.f199 199 rfl rfl #[.slice a b j] w R:=wk Tryz.func199
def Jb:Wk N0_ Tryz.f200 200 rfl rfl #[.slice a b j] w R:=wk Tryz.func200
def s_:Wk N0_ Tryz.f201 201 rfl rfl #[.pointer a,.ii c] w R:=wk Tryz.func201
def vR:Wk N0_ Tryz.f202 202 rfl rfl #[.pointer a] w R:=wk Tryz.func202
def uC:Wk N0_ Tryz.f203 203 rfl rfl #[.pointer a] w R:=wk Tryz.func203
def xU:Wk N0_ Tryz.f205 205 rfl rfl #[.pointer a,.string g,.ii c] w R:=wk Tryz.func205
def td:Wk N0_ Tryz.f186 186 rfl rfl #[.pointer a,.string g] w R:=wk Tryz.func186
def xV:Wk N0_ Tryz.f208 208 rfl rfl #[.pointer a] w R:=wk Tryz.func208
def uE:Wk N0_ Tryz.f209 209 rfl rfl #[.pointer (some ⟨b,j,none⟩)] w R:=wk Tryz.func209
