import Derived.Test.YtjgjkeponbeekaaGreatDoorYjCodeA
set_option linter.all false
set_option maxRecDepth 100000
namespace Go.Proofs.YtjgjkeponbeekaaGreatDoor
open Go.aw
variable {a i m p r t v x y z A B C D E F G H:Int} {b j n q s u:Nat} {c k o:Option Addr} {d:FuncId} {e l:Array Value} {f:Option Nat} {g:ByteArray} {h:Bool}
variable {w:World} {R:Ending->World->Prop}
def zP:Wk N1_ Tryz.f97 97 rfl rfl #[.ii a,.ii i,.ii m] w R:=wk Tryz.func97
def xz:Wk N1_ Tryz.f98 98 rfl rfl #[.agg #[.ii a,.ii i,.ii m,.ii p]] w R:=wk Tryz.func98
def xA:Wk N1_ Tryz.f99 99 rfl rfl #[.agg #[.ii a,.ii i,.ii m,.ii p],.pointer (some ⟨b,j,none⟩)] w R:=wk Tryz.func99
def IP:Wk N1_ Tryz.f100 100 rfl rfl #[.agg #[.slice c b j],.ii a,.ii i] w R:=wk Tryz.func100
def fT:Wk N1_ Tryz.f101 101 rfl rfl #[.slice c b j,.func (.func d) e l] w R:=wk Tryz.func101
def i_:Wk N1_ Tryz.f102 102 rfl rfl #[.slice c b j] w R:=wk Tryz.func102
def jb:Wk N1_ Tryz.f103 103 rfl rfl #[.slice c b j] w R:=wk Tryz.func103
def ij:Wk N1_ Tryz.f104 104 rfl rfl #[.slice c b j] w R:=wk Tryz.func104
def LK:Wk ⟨⟨[],[],[],[],[]⟩,true,[3]⟩ Tryz.f106 106 rfl rfl #[.agg #[.ii a,.ii i,.ii m,.ii p,.ii r]] w R:=wk Tryz.func106
def tQ:Wk ⟨⟨[],[],[1],[1],[(1,⟨[0,0,2,4,8,0,0,64,128,256,544,1024,3088,8191,16383,24575],[65535,65535,65533,65531,65527,65535,65535,65471,65407,65279,64991,64511,63471,65534,57343,45055],[0,0,0,0,1,0,0,0,0,1,2,2,2,0,0,2]⟩)]⟩,true,[]⟩ Tryz.f107 107 rfl rfl #[.pointer c] w R:=wk Tryz.func107
def DJ:Wk ⟨⟨[(3,[(3,.int .i64 0),(11,.int .i64 0)])],[],[],[],[]⟩,false,[]⟩ Tryz.f108 108 rfl rfl #[.pointer c] w R:=wk Tryz.func108
def zQ:Wk ⟨⟨[(10,[(43,.int .i64 0)])],[],[11],[11],[]⟩,false,[]⟩ Tryz.f109 109 rfl rfl #[.pointer c] w R:=wk Tryz.func109
def DK:Wk N1_ Tryz.f113 113 rfl rfl #[.agg #[.ii a,.ii i,.ii m,.slice c b j,.ii p,.ii r,.ii t,.ii v,.ii x,.ii y],.ii z] w R:=wk Tryz.func113
def vF:Wk ⟨⟨[(8,[(42,.int .i64 0)])],[],[],[],[]⟩,true,[]⟩ Tryz.f114 114 rfl rfl #[.pointer c,.agg #[.ii a,.ii i,.ii m,.slice k b j,.ii p,.ii r,.ii t,.ii v,.ii x,.ii y],.ii z] w R:=wk Tryz.func114
def zR:Wk N1_ Tryz.f115 115 rfl rfl #[.agg #[.ii a,.ii i,.ii m,.slice c b j,.ii p,.ii r,.ii t,.ii v,.ii x,.ii y]] w R:=wk Tryz.func115
def u_:Wk ⟨⟨[(4,[(36,.int .i64 0)])],[(2,[(4,.pointer (some ⟨0,0,none⟩))]),(3,[(5,.pointer (some ⟨0,0,none⟩))]),(9,[(9,.int .i64 0)])],[1,2,11],[11],[(2,⟨[0,1,2,4,8,0,32,0,128,336,512,1024,1024,0,12287,32767],[65535,65534,65533,65531,65527,65535,65503,65535,65407,65199,65023,64511,64511,65535,55295,61439],[0,0,0,0,1,0,1,0,1,2,0,0,0,2,2,0]⟩),(9,⟨[0,1,2,4,8,0,48,64,0,0,896],[2047,2046,2045,2043,2039,2047,1999,1983,2047,2047,1151],[0,0,0,0,1,0,0,1,1,0,2]⟩),(11,⟨[0,0,2,4,8,0,32,64,208,511,1023,1535],[4095,4095,4093,4091,4087,4095,4063,4031,3951,4094,3583,2815],[0,0,0,0,1,1,2,2,2,0,0,2]⟩)]⟩,true,[72]⟩ Tryz.f117 117 rfl rfl #[.pointer c,.agg #[.ii a,.ii i,.ii m,.slice k b j,.ii p,.ii r,.ii t,.ii v,.ii x,.ii y]] w R:=wk Tryz.func117
def DM:Wk N1_ Tryz.f187 187 rfl rfl #[.ii a,.pointer (some ⟨b,j,none⟩)] w R:=wk Tryz.func187
def GN:Wk ⟨⟨[(6,[(30,.int .i64 0)])],[],[],[],[]⟩,true,[]⟩ Tryz.f188 188 rfl rfl #[.agg #[.ii a,.ii i,.ii m,.slice c b j,.slice k n q],.ii p,.ii r] w R:=wk Tryz.func188
def GO:Wk ⟨⟨[(6,[(21,.int .i64 0)])],[],[],[],[]⟩,true,[]⟩ Tryz.f189 189 rfl rfl #[.agg #[.ii a,.ii i,.ii m,.slice c b j,.slice k n q],.ii p] w R:=wk Tryz.func189
def og:Wk ⟨⟨[(4,[(5,.slice none 0 0),(16,.int .i64 0)]),(12,[(5,.slice none 0 0)]),(16,[(5,.slice none 0 0),(50,.int .i64 0)])],[],[],[],[]⟩,true,[32,59]⟩ Tryz.f190 190 rfl rfl #[.pointer c,.slice k b j] w R:=wk Tryz.func190
def LM:Wk N1_ Tryz.f191 191 rfl rfl #[.pointer c,.ii a,.ii i] w R:=wk Tryz.func191
def LN:Wk ⟨⟨[(3,[(5,.slice none 0 0),(12,.int .i64 0)])],[],[],[],[]⟩,true,[]⟩ Tryz.f192 192 rfl rfl #[.slice c b j,.slice k n q] w R:=wk Tryz.func192
def OT:Wk ⟨⟨[(3,[(5,.int .i64 0),(14,.int .i64 0)])],[],[],[],[]⟩,true,[]⟩ Tryz.f193 193 rfl rfl #[.slice c b j,.slice k n q] w R:=wk Tryz.func193
def ph:Wk ⟨⟨[],[],[1],[],[(1,⟨[0,1,2,0,0,16,32,72,128,260,1023],[2047,2046,2045,2047,2047,2031,2015,1975,1919,1787,1535],[0,0,1,1,0,0,1,2,0,0,0]⟩)]⟩,true,[]⟩ Tryz.f195 195 rfl rfl #[.agg #[.ii a,.ii i,.ii m,.slice c b j,.ii p,.ii r,.ii t,.ii v,.ii x,.ii y],.pointer (some ⟨n,q,none⟩)] w R:=wk Tryz.func195
def OU:Wk N1_ Tryz.f196 196 rfl rfl #[.slice c b j,.ii a] w R:=wk Tryz.func196
def qZ:Wk N1_ Tryz.f123 123 rfl rfl #[.pointer c] w R:=wk Tryz.func123
def dm:Wk ⟨⟨[(1,[])],[],[],[],[]⟩,false,[]⟩ Tryz.f137 137 rfl rfl #[.map f,.func (.func d) e l] w R:=wk Tryz.func137
def q_:Wk N0_ Tryz.f138 138 rfl rfl #[.string g,.pointer c] w R:=wk Tryz.func138
def xB:Wk ⟨⟨[],[],[],[],[(0,⟨[0,0,2,4,8,0,0,64,128,256,512,1056,2048,4112,8192,32767,65535,98303],[262143,262143,262141,262139,262135,262143,262143,262079,262015,261887,261631,261087,260095,258031,253951,262142,229375,180223],[0,0,0,0,1,0,0,0,0,1,0,0,0,0,2,0,0,2]⟩)]⟩,false,[]⟩ Tryz.f139 139 rfl rfl #[.pointer c,.ii a] w R:=wk Tryz.func139
def sT:Wk N0_ Tryz.f141 141 rfl rfl #[.pointer c,.string g] w R:=wk Tryz.func141
def xC:Wk ⟨⟨[(3,[(4,.slice none 0 0),(11,.int .i64 0)])],[],[],[],[]⟩,false,[]⟩ Tryz.f142 142 rfl rfl #[.slice c b j] w R:=wk Tryz.func142
def vG:Wk N0_ Tryz.f144 144 rfl rfl #[.pointer c] w R:=wk Tryz.func144
def qu:Wk N0_ Tryz.f145 145 rfl rfl #[.pointer c] w R:=wk Tryz.func145
def Bz:Wk N0_ Tryz.f146 146 rfl rfl #[.ii a] w R:=wk Tryz.func146
def dX:Wk N1_ Tryz.f153 153 rfl rfl #[.map f] w R:=wk Tryz.func153
def xD:Wk ⟨⟨[],[],[1],[],[(1,⟨[0,1,0,4,10,0,32,64,0,256,512,1168,0,4096,8192,0,32768,65536,149504,264208,786432,2097151],[4194303,4194302,4194303,4194299,4194293,4194303,4194271,4194239,4194303,4194047,4193791,4193151,4194303,4190207,4186111,4194303,4161535,4128767,4046847,3930095,3670015,3145727],[0,1,0,1,2,0,0,1,0,0,1,2,0,0,1,0,0,1,2,2,2,0]⟩)]⟩,true,[]⟩ Tryz.f155 155 rfl rfl #[.agg #[.ii a,.ii i,.ii m,.slice c b j,.ii p,.ii r,.ii t,.ii v,.ii x,.ii y],.agg #[.ii z,.ii A,.ii B,.slice k n q,.ii C,.ii D,.ii E,.ii F,.ii G,.ii H]] w R:=wk Tryz.func155
def zS:Wk ⟨⟨[(3,[(15,.int .i64 0)]),(7,[(24,.int .i64 0)])],[],[],[],[]⟩,true,[]⟩ Tryz.f158 158 rfl rfl #[.agg #[.slice c b j,.slice k n q]] w R:=wk Tryz.func158
def zU:Wk ⟨⟨[(5,[(51,.int .i64 0)])],[(4,[(6,.pointer (some ⟨0,0,none⟩)),(7,.pointer (some ⟨0,0,none⟩))]),(13,[])],[3,10,15,16],[],[(1,⟨[0,1,2,4,0,16,0,64,0,256,0,1024,2728,4096],[16383,16382,16381,16379,16383,16367,16383,16319,16383,16127,16383,15359,13655,12287],[0,0,0,1,0,1,0,1,0,1,0,1,2,0]⟩),(3,⟨[0,1,2,4,8,0,32,80,128,0,512,0,2048,5120,0,16384,40960,0,0,393727,1048575],[2097151,2097150,2097149,2097147,2097143,2097151,2097119,2097071,2097023,2097151,2096639,2097151,2095103,2092031,2097151,2080767,2056191,2097151,2097151,1965823,1769471],[0,0,0,0,1,0,1,0,1,0,1,0,1,0,0,1,0,2,2,2,2]⟩),(10,⟨[0,1,2,4,0,16,40,64,128,128,0,1535,4095],[8191,8190,8189,8187,8191,8175,8151,8127,8063,8063,8191,6911,7679],[0,0,0,1,0,1,1,0,0,0,2,2,0]⟩),(15,⟨[0,1,2,4,0,16,0,64,128,0,0,1024,0,4096,0,16384,0,65536,174592,262400,1048575],[2097151,2097150,2097149,2097147,2097151,2097135,2097151,2097087,2097023,2097151,2097151,2096127,2097151,2093055,2097151,2080767,2097151,2031615,1922559,1834751,1572823],[0,0,0,1,0,1,0,1,0,1,0,1,0,1,0,1,0,1,2,0,2]⟩),(16,⟨[0,1,2,4,0,0,32,127,128,448,128,2047],[4095,4094,4093,4091,4095,4095,4063,4071,3967,3775,3967,2551],[0,0,0,1,1,1,2,2,0,2,0,2]⟩)]⟩,true,[120]⟩ Tryz.f199 199 rfl rfl #[.pointer c,.agg #[.ii a,.ii i,.ii m,.slice k b j,.ii p,.ii r,.ii t,.ii v,.ii x,.ii y]] w R:=wk Tryz.func199
def GP:Wk N1_ Tryz.f200 200 rfl rfl #[.agg #[.ii a,.ii i,.ii m,.slice c b j,.ii p,.ii r,.ii t,.ii v,.ii x,.ii y]] w R:=wk Tryz.func200
def DN:Wk ⟨⟨[],[],[],[],[(4,⟨[0,1,2,6,8,24,40,8,136,328,520,1032],[4095,4094,4093,4091,4087,4071,4055,4087,3959,3767,3575,3071],[0,2,0,0,0,0,1,0,1,0,0,0]⟩)]⟩,true,[]⟩ Tryz.f201 201 rfl rfl #[.agg #[.slice c b j,.slice k n q],.ii a,.ii i,.ii m,.ii p] w R:=wk Tryz.func201
def rb:Wk N1_ Tryz.f202 202 rfl rfl #[.agg #[.ii a,.ii i,.ii m,.slice c b j,.ii p,.ii r,.ii t,.ii v,.ii x,.ii y],.pointer (some ⟨n,q,none⟩)] w R:=wk Tryz.func202
def GQ:Wk ⟨⟨[(3,[(11,.int .i64 0)])],[],[5],[],[(5,⟨[0,1,0,0,8,0,48,64,128,256,1023,2047,3071],[8191,8190,8191,8191,8183,8191,8143,8127,8063,7935,8185,7167,5631],[0,1,0,0,1,0,0,0,1,2,0,0,2]⟩)]⟩,true,[]⟩ Tryz.f203 203 rfl rfl #[.agg #[.ii a,.slice c b j]] w R:=wk Tryz.func203
def Gp:Wk N1_ Tryz.f204 204 rfl rfl #[] w R:=wk Tryz.func204
def zV:Wk N0_ Tryz.f205 205 rfl rfl #[.agg #[.ii a,.ii i,.ii m,.slice c b j,.ii p,.ii r,.ii t,.ii v,.ii x,.ii y]] w R:=wk Tryz.func205
def sU:Wk N0_ Tryz.f178 178 rfl rfl #[.pointer c,.string g,.slice k b j] w R:=wk Tryz.func178
def vH:Wk ⟨⟨[],[],[],[],[(1,⟨[0,1,2,4,0,16,32,64,128,256,520,1024,2048,8191],[16383,16382,16381,16379,16383,16367,16351,16319,16255,16127,15863,15359,14335,12287],[0,0,0,1,0,0,0,1,0,0,0,1,2,0]⟩)]⟩,false,[]⟩ Tryz.f206 206 rfl rfl #[.pointer c] w R:=wk Tryz.func206
def vI:Wk N0_ Tryz.f172 172 rfl rfl #[.pointer c,.string g] w R:=wk Tryz.func172
def BA:Wk N1_ Tryz.f147 147 rfl rfl #[.slice c b j,.func (.func d) e l] w R:=wk Tryz.func147
def zW:Wk N1_ Tryz.f148 148 rfl rfl #[.agg #[.ii a,.ii i,.ii m,.slice c b j,.ii p,.ii r,.ii t,.ii v,.ii x,.ii y,.bool h,.ii z,.ii A],.pointer (some ⟨n,q,none⟩),.pointer (some ⟨s,u,none⟩)] w R:=wk Tryz.func148
def zY:Wk N1_ Tryz.f149 149 rfl rfl #[.agg #[.ii a,.ii i,.ii m,.slice c b j,.ii p,.ii r,.ii t,.ii v,.ii x,.ii y,.bool h,.ii z,.ii A]] w R:=wk Tryz.func149
def BB:Wk N1_ Tryz.f151 151 rfl rfl #[.ii a,.pointer (some ⟨b,j,none⟩),.pointer (some ⟨n,q,none⟩)] w R:=wk Tryz.func151
def gJ:Wk ⟨⟨[(2,[(8,.int .i64 0)])],[],[],[],[]⟩,true,[]⟩ Tryz.f157 157 rfl rfl #[.slice c b j,.func (.func d) e l] w R:=wk Tryz.func157
def tP:Wk ⟨⟨[(3,[(21,.int .i64 0)])],[(2,[(5,.pointer (some ⟨0,0,none⟩))])],[1,5],[5],[(1,⟨[0,1,2,4,0,16,32,64,136,256,0,2047],[4095,4094,4093,4091,4095,4079,4063,4031,3959,3839,4095,2559],[0,0,0,1,0,0,0,1,2,0,2,2]⟩)]⟩,true,[]⟩ Tryz.f159 159 rfl rfl #[.pointer c,.agg #[.pointer k,.slice o b j]] w R:=wk Tryz.func159
def vJ:Wk N0_ Tryz.f160 160 rfl rfl #[.pointer c] w R:=wk Tryz.func160
def xE:Wk ⟨⟨[(6,[(6,.int .i64 0)])],[],[],[],[]⟩,false,[]⟩ Tryz.f161 161 rfl rfl #[.string g] w R:=wk Tryz.func161
def mP:Wk N0_ Tryz.f162 162 rfl rfl #[.pointer c,.string g] w R:=wk Tryz.func162
def IQ:Wk ⟨⟨[],[],[4],[],[(4,⟨[0,1,2,4,0,0,32,80,128,264,0,1024,2048,1023,16383,32767],[65535,65534,65533,65531,65535,65535,65503,65455,65407,65271,65535,64511,63487,65023,61439,65535],[0,0,1,0,0,0,0,0,2,0,0,0,0,2,0,0]⟩)]⟩,false,[]⟩ Tryz.f163 163 rfl rfl #[.slice c b j] w R:=wk Tryz.func163
def IS:Wk N0_ Tryz.f164 164 rfl rfl #[.slice c b j] w R:=wk Tryz.func164
def sV:Wk N0_ Tryz.f165 165 rfl rfl #[.pointer c,.ii a] w R:=wk Tryz.func165
def vK:Wk N0_ Tryz.f166 166 rfl rfl #[.pointer c] w R:=wk Tryz.func166
def uw:Wk N0_ Tryz.f167 167 rfl rfl #[.pointer c] w R:=wk Tryz.func167
def xF:Wk N0_ Tryz.f169 169 rfl rfl #[.pointer c,.string g,.ii a] w R:=wk Tryz.func169
def sW:Wk N0_ Tryz.f170 170 rfl rfl #[.pointer c,.string g] w R:=wk Tryz.func170
def xG:Wk N0_ Tryz.f174 174 rfl rfl #[.pointer c] w R:=wk Tryz.func174
def ux:Wk N0_ Tryz.f175 175 rfl rfl #[.pointer (some ⟨b,j,none⟩)] w R:=wk Tryz.func175
def uy:Wk N0_ Tryz.f176 176 rfl rfl #[.pointer (some ⟨b,j,none⟩)] w R:=wk Tryz.func176
def uz:Wk ⟨⟨[],[],[1],[],[]⟩,false,[]⟩ Tryz.f177 177 rfl rfl #[.pointer (some ⟨b,j,none⟩),.pointer (some ⟨n,q,none⟩)] w R:=wk Tryz.func177
