import Derived.Test.YtkpomgifkloklabGreatDoorYfCodeA
set_option linter.all false
set_option maxRecDepth 100000
namespace Go.Proofs.YtkpomgifkloklabGreatDoor
open Go.aw
variable {a i m:Option Addr} {b j n p r t:Nat} {c:FuncId} {d k:Array Value} {e l o q s u v x y z A B C D E F G H:Int} {f:Option Nat} {g:ByteArray} {h:Bool}
variable {w:World} {R:Ending->World->Prop}
def fS:Wk N1_ Tryz.f133 133 rfl rfl #[.slice a b j,.func (.func c) d k] w R:=wk Tryz.func133
def iQ:Wk N1_ Tryz.f134 134 rfl rfl #[.slice a b j] w R:=wk Tryz.func134
def iR:Wk N1_ Tryz.f135 135 rfl rfl #[.slice a b j] w R:=wk Tryz.func135
def gW:Wk N1_ Tryz.f136 136 rfl rfl #[.slice a b j] w R:=wk Tryz.func136
def LH:Wk ⟨⟨[],[],[],[],[]⟩,true,[3]⟩ Tryz.f137 137 rfl rfl #[.agg #[.ii e,.ii l,.ii o,.ii q,.ii s]] w R:=wk Tryz.func137
def tH:Wk ⟨⟨[],[],[1],[1],[(1,⟨[0,0,2,4,8,0,0,64,128,256,544,1024,3088,8191,16383,24575],[65535,65535,65533,65531,65527,65535,65535,65471,65407,65279,64991,64511,63471,65534,57343,45055],[0,0,0,0,1,0,0,0,0,1,2,2,2,0,0,2]⟩)]⟩,true,[]⟩ Tryz.f138 138 rfl rfl #[.pointer a] w R:=wk Tryz.func138
def Dz:Wk ⟨⟨[(3,[(3,.int .i64 0),(11,.int .i64 0)])],[],[],[],[]⟩,false,[]⟩ Tryz.f139 139 rfl rfl #[.pointer a] w R:=wk Tryz.func139
def zG:Wk ⟨⟨[(10,[(43,.int .i64 0)])],[],[11],[11],[]⟩,false,[]⟩ Tryz.f140 140 rfl rfl #[.pointer a] w R:=wk Tryz.func140
def DA:Wk N1_ Tryz.f144 144 rfl rfl #[.agg #[.ii e,.ii l,.ii o,.slice a b j,.ii q,.ii s,.ii u,.ii v,.ii x,.ii y],.ii z] w R:=wk Tryz.func144
def vv:Wk ⟨⟨[(8,[(42,.int .i64 0)])],[],[],[],[]⟩,true,[]⟩ Tryz.f145 145 rfl rfl #[.pointer a,.agg #[.ii e,.ii l,.ii o,.slice i b j,.ii q,.ii s,.ii u,.ii v,.ii x,.ii y],.ii z] w R:=wk Tryz.func145
def zH:Wk N1_ Tryz.f126 126 rfl rfl #[.agg #[.ii e,.ii l,.ii o,.slice a b j,.ii q,.ii s,.ii u,.ii v,.ii x,.ii y]] w R:=wk Tryz.func126
def uS:Wk ⟨⟨[(4,[(36,.int .i64 0)])],[(2,[(4,.pointer (some ⟨0,0,none⟩))]),(3,[(5,.pointer (some ⟨0,0,none⟩))]),(9,[(9,.int .i64 0)])],[1,2,11],[11],[(2,⟨[0,1,2,4,8,0,32,0,128,336,512,1024,1024,0,12287,32767],[65535,65534,65533,65531,65527,65535,65503,65535,65407,65199,65023,64511,64511,65535,55295,61439],[0,0,0,0,1,0,1,0,1,2,0,0,0,2,2,0]⟩),(9,⟨[0,1,2,4,8,0,48,64,0,0,896],[2047,2046,2045,2043,2039,2047,1999,1983,2047,2047,1151],[0,0,0,0,1,0,0,1,1,0,2]⟩),(11,⟨[0,0,2,4,8,0,32,64,208,511,1023,1535],[4095,4095,4093,4091,4087,4095,4063,4031,3951,4094,3583,2815],[0,0,0,0,1,1,2,2,2,0,0,2]⟩)]⟩,true,[72]⟩ Tryz.f147 147 rfl rfl #[.pointer a,.agg #[.ii e,.ii l,.ii o,.slice i b j,.ii q,.ii s,.ii u,.ii v,.ii x,.ii y]] w R:=wk Tryz.func147
def DB:Wk N1_ Tryz.f148 148 rfl rfl #[.ii e,.pointer (some ⟨b,j,none⟩)] w R:=wk Tryz.func148
def GG:Wk ⟨⟨[(6,[(30,.int .i64 0)])],[],[],[],[]⟩,true,[]⟩ Tryz.f149 149 rfl rfl #[.agg #[.ii e,.ii l,.ii o,.slice a b j,.slice i n p],.ii q,.ii s] w R:=wk Tryz.func149
def GH:Wk ⟨⟨[(6,[(21,.int .i64 0)])],[],[],[],[]⟩,true,[]⟩ Tryz.f150 150 rfl rfl #[.agg #[.ii e,.ii l,.ii o,.slice a b j,.slice i n p],.ii q] w R:=wk Tryz.func150
def nV:Wk ⟨⟨[(4,[(5,.slice none 0 0),(16,.int .i64 0)]),(12,[(5,.slice none 0 0)]),(16,[(5,.slice none 0 0),(50,.int .i64 0)])],[],[],[],[]⟩,true,[32,59]⟩ Tryz.f151 151 rfl rfl #[.pointer a,.slice i b j] w R:=wk Tryz.func151
def LI:Wk N1_ Tryz.f152 152 rfl rfl #[.pointer a,.ii e,.ii l] w R:=wk Tryz.func152
def LJ:Wk ⟨⟨[(3,[(5,.slice none 0 0),(12,.int .i64 0)])],[],[],[],[]⟩,true,[]⟩ Tryz.f153 153 rfl rfl #[.slice a b j,.slice i n p] w R:=wk Tryz.func153
def OV:Wk ⟨⟨[(3,[(5,.int .i64 0),(14,.int .i64 0)])],[],[],[],[]⟩,true,[]⟩ Tryz.f154 154 rfl rfl #[.slice a b j,.slice i n p] w R:=wk Tryz.func154
def oS:Wk ⟨⟨[],[],[1],[],[(1,⟨[0,1,2,0,0,16,32,72,128,260,1023],[2047,2046,2045,2047,2047,2031,2015,1975,1919,1787,1535],[0,0,1,1,0,0,1,2,0,0,0]⟩)]⟩,true,[]⟩ Tryz.f156 156 rfl rfl #[.agg #[.ii e,.ii l,.ii o,.slice a b j,.ii q,.ii s,.ii u,.ii v,.ii x,.ii y],.pointer (some ⟨n,p,none⟩)] w R:=wk Tryz.func156
def OW:Wk N1_ Tryz.f157 157 rfl rfl #[.slice a b j,.ii e] w R:=wk Tryz.func157
def qQ:Wk N1_ Tryz.f93 93 rfl rfl #[.pointer a] w R:=wk Tryz.func93
def dh:Wk ⟨⟨[(1,[])],[],[],[],[]⟩,false,[]⟩ Tryz.f108 108 rfl rfl #[.map f,.func (.func c) d k] w R:=wk Tryz.func108
def qR:Wk N0_ Tryz.f109 109 rfl rfl #[.string g,.pointer a] w R:=wk Tryz.func109
def xx:Wk ⟨⟨[],[],[],[],[(0,⟨[0,0,2,4,8,0,0,64,128,256,512,1056,2048,4112,8192,32767,65535,98303],[262143,262143,262141,262139,262135,262143,262143,262079,262015,261887,261631,261087,260095,258031,253951,262142,229375,180223],[0,0,0,0,1,0,0,0,0,1,0,0,0,0,2,0,0,2]⟩)]⟩,false,[]⟩ Tryz.f110 110 rfl rfl #[.pointer a,.ii e] w R:=wk Tryz.func110
def sH:Wk N0_ Tryz.f112 112 rfl rfl #[.pointer a,.string g] w R:=wk Tryz.func112
def xy:Wk ⟨⟨[(3,[(4,.slice none 0 0),(11,.int .i64 0)])],[],[],[],[]⟩,false,[]⟩ Tryz.f113 113 rfl rfl #[.slice a b j] w R:=wk Tryz.func113
def vw:Wk N0_ Tryz.f115 115 rfl rfl #[.pointer a] w R:=wk Tryz.func115
def ql:Wk N0_ Tryz.f116 116 rfl rfl #[.pointer a] w R:=wk Tryz.func116
def Bk:Wk N0_ Tryz.f117 117 rfl rfl #[.ii e] w R:=wk Tryz.func117
def dU:Wk N1_ Tryz.f125 125 rfl rfl #[.map f] w R:=wk Tryz.func125
def xz:Wk ⟨⟨[],[],[1],[],[(1,⟨[0,1,0,4,10,0,32,64,0,256,512,1168,0,4096,8192,0,32768,65536,149504,264208,786432,2097151],[4194303,4194302,4194303,4194299,4194293,4194303,4194271,4194239,4194303,4194047,4193791,4193151,4194303,4190207,4186111,4194303,4161535,4128767,4046847,3930095,3670015,3145727],[0,1,0,1,2,0,0,1,0,0,1,2,0,0,1,0,0,1,2,2,2,0]⟩)]⟩,true,[]⟩ Tryz.f128 128 rfl rfl #[.agg #[.ii e,.ii l,.ii o,.slice a b j,.ii q,.ii s,.ii u,.ii v,.ii x,.ii y],.agg #[.ii z,.ii A,.ii B,.slice i n p,.ii C,.ii D,.ii E,.ii F,.ii G,.ii H]] w R:=wk Tryz.func128
def zI:Wk ⟨⟨[(3,[(15,.int .i64 0)]),(7,[(24,.int .i64 0)])],[],[],[],[]⟩,true,[]⟩ Tryz.f160 160 rfl rfl #[.agg #[.slice a b j,.slice i n p]] w R:=wk Tryz.func160
def zJ:Wk ⟨⟨[(5,[(51,.int .i64 0)])],[(4,[(6,.pointer (some ⟨0,0,none⟩)),(7,.pointer (some ⟨0,0,none⟩))]),(13,[])],[3,10,15,16],[],[(1,⟨[0,1,2,4,0,16,0,64,0,256,0,1024,2728,4096],[16383,16382,16381,16379,16383,16367,16383,16319,16383,16127,16383,15359,13655,12287],[0,0,0,1,0,1,0,1,0,1,0,1,2,0]⟩),(3,⟨[0,1,2,4,8,0,32,80,128,0,512,0,2048,5120,0,16384,40960,0,0,393727,1048575],[2097151,2097150,2097149,2097147,2097143,2097151,2097119,2097071,2097023,2097151,2096639,2097151,2095103,2092031,2097151,2080767,2056191,2097151,2097151,1965823,1769471],[0,0,0,0,1,0,1,0,1,0,1,0,1,0,0,1,0,2,2,2,2]⟩),(10,⟨[0,1,2,4,0,16,40,64,128,128,0,1535,4095],[8191,8190,8189,8187,8191,8175,8151,8127,8063,8063,8191,6911,7679],[0,0,0,1,0,1,1,0,0,0,2,2,0]⟩),(15,⟨[0,1,2,4,0,16,0,64,128,0,0,1024,0,4096,0,16384,0,65536,174592,262400,1048575],[2097151,2097150,2097149,2097147,2097151,2097135,2097151,2097087,2097023,2097151,2097151,2096127,2097151,2093055,2097151,2080767,2097151,2031615,1922559,1834751,1572823],[0,0,0,1,0,1,0,1,0,1,0,1,0,1,0,1,0,1,2,0,2]⟩),(16,⟨[0,1,2,4,0,0,32,127,128,448,128,2047],[4095,4094,4093,4091,4095,4095,4063,4071,3967,3775,3967,2551],[0,0,0,1,1,1,2,2,0,2,0,2]⟩)]⟩,true,[120]⟩ Tryz.f161 161 rfl rfl #[.pointer a,.agg #[.ii e,.ii l,.ii o,.slice i b j,.ii q,.ii s,.ii u,.ii v,.ii x,.ii y]] w R:=wk Tryz.func161
def GI:Wk N1_ Tryz.f162 162 rfl rfl #[.agg #[.ii e,.ii l,.ii o,.slice a b j,.ii q,.ii s,.ii u,.ii v,.ii x,.ii y]] w R:=wk Tryz.func162
def DD:Wk ⟨⟨[],[],[],[],[(4,⟨[0,1,2,6,8,24,40,8,136,328,520,1032],[4095,4094,4093,4091,4087,4071,4055,4087,3959,3767,3575,3071],[0,2,0,0,0,0,1,0,1,0,0,0]⟩)]⟩,true,[]⟩ Tryz.f163 163 rfl rfl #[.agg #[.slice a b j,.slice i n p],.ii e,.ii l,.ii o,.ii q] w R:=wk Tryz.func163
def qS:Wk N1_ Tryz.f164 164 rfl rfl #[.agg #[.ii e,.ii l,.ii o,.slice a b j,.ii q,.ii s,.ii u,.ii v,.ii x,.ii y],.pointer (some ⟨n,p,none⟩)] w R:=wk Tryz.func164
def GJ:Wk ⟨⟨[(3,[(11,.int .i64 0)])],[],[5],[],[(5,⟨[0,1,0,0,8,0,48,64,128,256,1023,2047,3071],[8191,8190,8191,8191,8183,8191,8143,8127,8063,7935,8185,7167,5631],[0,1,0,0,1,0,0,0,1,2,0,0,2]⟩)]⟩,true,[]⟩ Tryz.f165 165 rfl rfl #[.agg #[.ii e,.slice a b j]] w R:=wk Tryz.func165
def Gc:Wk N1_ Tryz.f166 166 rfl rfl #[] w R:=wk Tryz.func166
def zK:Wk N0_ Tryz.f167 167 rfl rfl #[.agg #[.ii e,.ii l,.ii o,.slice a b j,.ii q,.ii s,.ii u,.ii v,.ii x,.ii y]] w R:=wk Tryz.func167
def sI:Wk N0_ Tryz.f168 168 rfl rfl #[.pointer a,.string g,.slice i b j] w R:=wk Tryz.func168
def vy:Wk ⟨⟨[],[],[],[],[(1,⟨[0,1,2,4,0,16,32,64,128,256,520,1024,2048,8191],[16383,16382,16381,16379,16383,16367,16351,16319,16255,16127,15863,15359,14335,12287],[0,0,0,1,0,0,0,1,0,0,0,1,2,0]⟩)]⟩,false,[]⟩ Tryz.f169 169 rfl rfl #[.pointer a] w R:=wk Tryz.func169
def vz:Wk N0_ Tryz.f170 170 rfl rfl #[.pointer a,.string g] w R:=wk Tryz.func170
def Bl:Wk N1_ Tryz.f118 118 rfl rfl #[.slice a b j,.func (.func c) d k] w R:=wk Tryz.func118
def zM:Wk N1_ Tryz.f119 119 rfl rfl #[.agg #[.ii e,.ii l,.ii o,.slice a b j,.ii q,.ii s,.ii u,.ii v,.ii x,.ii y,.bool h,.ii z,.ii A],.pointer (some ⟨n,p,none⟩),.pointer (some ⟨r,t,none⟩)] w R:=wk Tryz.func119
def zN:Wk N1_ Tryz.f120 120 rfl rfl #[.agg #[.ii e,.ii l,.ii o,.slice a b j,.ii q,.ii s,.ii u,.ii v,.ii x,.ii y,.bool h,.ii z,.ii A]] w R:=wk Tryz.func120
def Bm:Wk N1_ Tryz.f122 122 rfl rfl #[.ii e,.pointer (some ⟨b,j,none⟩),.pointer (some ⟨n,p,none⟩)] w R:=wk Tryz.func122
def gC:Wk ⟨⟨[(2,[(8,.int .i64 0)])],[],[],[],[]⟩,true,[]⟩ Tryz.f186 186 rfl rfl #[.slice a b j,.func (.func c) d k] w R:=wk Tryz.func186
def tG:Wk ⟨⟨[(3,[(21,.int .i64 0)])],[(2,[(5,.pointer (some ⟨0,0,none⟩))])],[1,5],[5],[(1,⟨[0,1,2,4,0,16,32,64,136,256,0,2047],[4095,4094,4093,4091,4095,4079,4063,4031,3959,3839,4095,2559],[0,0,0,1,0,0,0,1,2,0,2,2]⟩)]⟩,true,[]⟩ Tryz.f187 187 rfl rfl #[.pointer a,.agg #[.pointer i,.slice m b j]] w R:=wk Tryz.func187
def vA:Wk N0_ Tryz.f173 173 rfl rfl #[.pointer a] w R:=wk Tryz.func173
def xA:Wk ⟨⟨[(6,[(6,.int .i64 0)])],[],[],[],[]⟩,false,[]⟩ Tryz.f174 174 rfl rfl #[.string g] w R:=wk Tryz.func174
def mu:Wk N0_ Tryz.f188 188 rfl rfl #[.pointer a,.string g] w R:=wk Tryz.func188
def II:Wk ⟨⟨[],[],[4],[],[(4,⟨[0,1,2,4,0,0,32,80,128,264,0,1024,2048,1023,16383,32767],[65535,65534,65533,65531,65535,65535,65503,65455,65407,65271,65535,64511,63487,65023,61439,65535],[0,0,1,0,0,0,0,0,2,0,0,0,0,2,0,0]⟩)]⟩,false,[]⟩ Tryz.f189 189 rfl rfl #[.slice a b j] w R:=wk Tryz.func189
def IJ:Wk N0_ Tryz.f190 190 rfl rfl #[.slice a b j] w R:=wk Tryz.func190
def sJ:Wk N0_ Tryz.f191 191 rfl rfl #[.pointer a,.ii e] w R:=wk Tryz.func191
def vB:Wk N0_ Tryz.f192 192 rfl rfl #[.pointer a] w R:=wk Tryz.func192
def um:Wk N0_ Tryz.f193 193 rfl rfl #[.pointer a] w R:=wk Tryz.func193
def xB:Wk N0_ Tryz.f195 195 rfl rfl #[.pointer a,.string g,.ii e] w R:=wk Tryz.func195
def sK:Wk N0_ Tryz.f178 178 rfl rfl #[.pointer a,.string g] w R:=wk Tryz.func178
def xC:Wk N0_ Tryz.f198 198 rfl rfl #[.pointer a] w R:=wk Tryz.func198
def uo:Wk N0_ Tryz.f199 199 rfl rfl #[.pointer (some ⟨b,j,none⟩)] w R:=wk Tryz.func199
def uq:Wk N0_ Tryz.f200 200 rfl rfl #[.pointer (some ⟨b,j,none⟩)] w R:=wk Tryz.func200
def ur:Wk ⟨⟨[],[],[1],[],[]⟩,false,[]⟩ Tryz.f201 201 rfl rfl #[.pointer (some ⟨b,j,none⟩),.pointer (some ⟨n,p,none⟩)] w R:=wk Tryz.func201
def xD:Wk ⟨⟨[(3,[(3,.slice none 0 0),(15,.int .i64 0)])],[],[],[],[]⟩,false,[]⟩ Tryz.f202 202 rfl rfl #[.agg #[.slice a b j]] w R:=wk Tryz.func202
def uu:Wk N0_ Tryz.f203 203 rfl rfl #[.pointer (some ⟨b,j,none⟩)] w R:=wk Tryz.func203
