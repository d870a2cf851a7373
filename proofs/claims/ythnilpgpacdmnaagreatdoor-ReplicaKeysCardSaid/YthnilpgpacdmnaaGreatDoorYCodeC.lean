import Derived.Test.YthnilpgpacdmnaaGreatDoorYCodeA
namespace Go.Proofs.YthnilpgpacdmnaaGreatDoor
open Go.au
variable {a h l:Option Addr} {b i m o:Nat} {c j n p q r s t u v x y z A B C D E:Int} {d:FuncId} {e k:Array Value} {f:Option Nat} {g:ByteArray}
variable {w:World} {R:Ending->World->Prop}
set_option maxRecDepth 100000
set_option linter.unusedVariables false
theorem tA:Wk ⟨⟨[(8,[(36,.int .i64 0)])],[(12,[])],[],[],[]⟩,false,[]⟩ Tryz.f76 76 rfl rfl #[.pointer a,.pointer h,.slice l b i,.int .i64 c] w R:=wk Tryz.func76
theorem sk:Wk N1_ Tryz.f78 78 rfl rfl #[.agg #[.int .i64 c,.int .i64 j,.int .i64 n,.slice a b i,.int .i64 p,.int .i64 q,.int .i64 r,.int .i64 s,.int .i64 t,.int .i64 u]] w R:=wk Tryz.func78
theorem mS:Wk N0_ Tryz.f79 79 rfl rfl #[.slice a b i] w R:=wk Tryz.func79
theorem II:Wk N1_ Tryz.f80 80 rfl rfl #[.agg #[.slice a b i,.slice h m o]] w R:=wk Tryz.func80
theorem xG:Wk ⟨⟨[],[],[2,3],[2],[(2,⟨[0,0,2,4,8,0,32,0,0,448,512,1104,4095,8191,12287],[32767,32767,32765,32763,32759,32767,32735,32767,32767,32319,32255,31727,32766,28671,22527],[0,0,0,0,1,1,2,0,1,0,2,2,0,0,2]⟩)]⟩,true,[20,29]⟩ Tryz.f81 81 rfl rfl #[.pointer a,.agg #[.int .i64 c,.int .i64 j,.int .i64 n,.slice h b i,.int .i64 p,.int .i64 q,.int .i64 r,.int .i64 s,.int .i64 t,.int .i64 u]] w R:=wk Tryz.func81
theorem xx:Wk N1_ Tryz.f82 82 rfl rfl #[.agg #[.slice a b i,.slice h m o],.agg #[.int .i64 c,.int .i64 j,.int .i64 n,.int .i64 p,.int .i64 q,.int .i64 r,.int .i64 s]] w R:=wk Tryz.func82
theorem tB:Wk N1_ Tryz.f84 84 rfl rfl #[.pointer a,.int .i64 c,.int .i64 j] w R:=wk Tryz.func84
theorem Iw:Wk N1_ Tryz.f85 85 rfl rfl #[.agg #[.slice a b i]] w R:=wk Tryz.func85
theorem vu:Wk N1_ Tryz.f90 90 rfl rfl #[.pointer a] w R:=wk Tryz.func90
theorem qJ:Wk ⟨⟨[(3,[(5,.slice none 0 0),(14,.int .i64 0)])],[(16,[])],[16],[],[]⟩,false,[]⟩ Tryz.f91 91 rfl rfl #[.pointer a,.slice h b i] w R:=wk Tryz.func91
theorem tC:Wk ⟨⟨[],[],[1],[],[]⟩,false,[]⟩ Tryz.f92 92 rfl rfl #[.pointer a] w R:=wk Tryz.func92
theorem mT:Wk ⟨⟨[(3,[(22,.int .i64 0)])],[],[],[],[]⟩,true,[]⟩ Tryz.f93 93 rfl rfl #[.pointer a,.slice h b i] w R:=wk Tryz.func93
theorem xH:Wk N1_ Tryz.f94 94 rfl rfl #[.agg #[.int .i64 c,.slice a b i],.agg #[.int .i64 j,.slice h m o]] w R:=wk Tryz.func94
theorem zo:Wk ⟨⟨[(4,[(5,.int .i64 0)])],[],[],[],[]⟩,true,[]⟩ Tryz.f96 96 rfl rfl #[.slice a b i,.slice h m o] w R:=wk Tryz.func96
theorem Eh:Wk N1_ Tryz.f98 98 rfl rfl #[.slice a b i,.int .i64 c,.int .i64 j] w R:=wk Tryz.func98
theorem xI:Wk N1_ Tryz.f99 99 rfl rfl #[.int .i64 c,.int .i64 j,.int .i64 n] w R:=wk Tryz.func99
theorem vv:Wk N1_ Tryz.f100 100 rfl rfl #[.agg #[.int .i64 c,.int .i64 j,.int .i64 n,.int .i64 p]] w R:=wk Tryz.func100
theorem vw:Wk N1_ Tryz.f101 101 rfl rfl #[.agg #[.int .i64 c,.int .i64 j,.int .i64 n,.int .i64 p],.pointer (some ⟨b,i,none⟩)] w R:=wk Tryz.func101
theorem Gu:Wk N1_ Tryz.f102 102 rfl rfl #[.agg #[.slice a b i],.int .i64 c,.int .i64 j] w R:=wk Tryz.func102
theorem eT:Wk N1_ Tryz.f103 103 rfl rfl #[.slice a b i,.func (.func d) e k] w R:=wk Tryz.func103
theorem gl:Wk N1_ Tryz.f104 104 rfl rfl #[.slice a b i] w R:=wk Tryz.func104
theorem gq:Wk N1_ Tryz.f105 105 rfl rfl #[.slice a b i] w R:=wk Tryz.func105
theorem fH:Wk N1_ Tryz.f106 106 rfl rfl #[.slice a b i] w R:=wk Tryz.func106
theorem IJ:Wk ⟨⟨[],[],[],[],[]⟩,true,[3]⟩ Tryz.f107 107 rfl rfl #[.agg #[.int .i64 c,.int .i64 j,.int .i64 n,.int .i64 p,.int .i64 q]] w R:=wk Tryz.func107
theorem rQ:Wk ⟨⟨[],[],[1],[1],[(1,⟨[0,0,2,4,8,0,0,64,128,256,544,1024,3088,8191,16383,24575],[65535,65535,65533,65531,65527,65535,65535,65471,65407,65279,64991,64511,63471,65534,57343,45055],[0,0,0,0,1,0,0,0,0,1,2,2,2,0,0,2]⟩)]⟩,true,[]⟩ Tryz.f108 108 rfl rfl #[.pointer a] w R:=wk Tryz.func108
theorem BK:Wk ⟨⟨[(3,[(3,.int .i64 0),(11,.int .i64 0)])],[],[],[],[]⟩,false,[]⟩ Tryz.f109 109 rfl rfl #[.pointer a] w R:=wk Tryz.func109
theorem xJ:Wk ⟨⟨[(10,[(43,.int .i64 0)])],[],[11],[11],[]⟩,false,[]⟩ Tryz.f110 110 rfl rfl #[.pointer a] w R:=wk Tryz.func110
theorem tD:Wk ⟨⟨[(8,[(42,.int .i64 0)])],[],[],[],[]⟩,true,[]⟩ Tryz.f115 115 rfl rfl #[.pointer a,.agg #[.int .i64 c,.int .i64 j,.int .i64 n,.slice h b i,.int .i64 p,.int .i64 q,.int .i64 r,.int .i64 s,.int .i64 t,.int .i64 u],.int .i64 v] w R:=wk Tryz.func115
theorem xK:Wk N1_ Tryz.f116 116 rfl rfl #[.agg #[.int .i64 c,.int .i64 j,.int .i64 n,.slice a b i,.int .i64 p,.int .i64 q,.int .i64 r,.int .i64 s,.int .i64 t,.int .i64 u]] w R:=wk Tryz.func116
theorem tf:Wk ⟨⟨[(4,[(36,.int .i64 0)])],[(2,[(4,.pointer (some ⟨0,0,none⟩))]),(3,[(5,.pointer (some ⟨0,0,none⟩))]),(9,[(9,.int .i64 0)])],[1,2,11],[11],[(2,⟨[0,1,2,4,8,0,32,0,128,336,512,1024,1024,0,12287,32767],[65535,65534,65533,65531,65527,65535,65503,65535,65407,65199,65023,64511,64511,65535,55295,61439],[0,0,0,0,1,0,1,0,1,2,0,0,0,2,2,0]⟩),(9,⟨[0,1,2,4,8,0,48,64,0,0,896],[2047,2046,2045,2043,2039,2047,1999,1983,2047,2047,1151],[0,0,0,0,1,0,0,1,1,0,2]⟩),(11,⟨[0,0,2,4,8,0,32,64,208,511,1023,1535],[4095,4095,4093,4091,4087,4095,4063,4031,3951,4094,3583,2815],[0,0,0,0,1,1,2,2,2,0,0,2]⟩)]⟩,true,[72]⟩ Tryz.f118 118 rfl rfl #[.pointer a,.agg #[.int .i64 c,.int .i64 j,.int .i64 n,.slice h b i,.int .i64 p,.int .i64 q,.int .i64 r,.int .i64 s,.int .i64 t,.int .i64 u]] w R:=wk Tryz.func118
theorem BL:Wk N1_ Tryz.f119 119 rfl rfl #[.int .i64 c,.pointer (some ⟨b,i,none⟩)] w R:=wk Tryz.func119
theorem Ei:Wk ⟨⟨[(6,[(30,.int .i64 0)])],[],[],[],[]⟩,true,[]⟩ Tryz.f120 120 rfl rfl #[.agg #[.int .i64 c,.int .i64 j,.int .i64 n,.slice a b i,.slice h m o],.int .i64 p,.int .i64 q] w R:=wk Tryz.func120
theorem Ej:Wk ⟨⟨[(6,[(21,.int .i64 0)])],[],[],[],[]⟩,true,[]⟩ Tryz.f121 121 rfl rfl #[.agg #[.int .i64 c,.int .i64 j,.int .i64 n,.slice a b i,.slice h m o],.int .i64 p] w R:=wk Tryz.func121
theorem lT:Wk ⟨⟨[(4,[(5,.slice none 0 0),(16,.int .i64 0)]),(12,[(5,.slice none 0 0)]),(16,[(5,.slice none 0 0),(50,.int .i64 0)])],[],[],[],[]⟩,true,[32,59]⟩ Tryz.f122 122 rfl rfl #[.pointer a,.slice h b i] w R:=wk Tryz.func122
theorem IK:Wk N1_ Tryz.f123 123 rfl rfl #[.pointer a,.int .i64 c,.int .i64 j] w R:=wk Tryz.func123
theorem IL:Wk ⟨⟨[(3,[(5,.slice none 0 0),(12,.int .i64 0)])],[],[],[],[]⟩,true,[]⟩ Tryz.f124 124 rfl rfl #[.slice a b i,.slice h m o] w R:=wk Tryz.func124
theorem LH:Wk ⟨⟨[(3,[(5,.int .i64 0),(14,.int .i64 0)])],[],[],[],[]⟩,true,[]⟩ Tryz.f125 125 rfl rfl #[.slice a b i,.slice h m o] w R:=wk Tryz.func125
theorem LI:Wk N1_ Tryz.f128 128 rfl rfl #[.slice a b i,.int .i64 c] w R:=wk Tryz.func128
theorem xL:Wk N0_ Tryz.f129 129 rfl rfl #[.agg #[.int .i64 c,.int .i64 j,.int .i64 n,.slice a b i,.int .i64 p,.int .i64 q,.int .i64 r,.int .i64 s,.int .i64 t,.int .i64 u]] w R:=wk Tryz.func129
theorem oV:Wk N1_ Tryz.f130 130 rfl rfl #[.pointer a] w R:=wk Tryz.func130
theorem cM:Wk ⟨⟨[(1,[])],[],[],[],[]⟩,false,[]⟩ Tryz.f131 131 rfl rfl #[.map f,.func (.func d) e k] w R:=wk Tryz.func131
theorem oW:Wk N0_ Tryz.f132 132 rfl rfl #[.string g,.pointer a] w R:=wk Tryz.func132
theorem qK:Wk N0_ Tryz.f135 135 rfl rfl #[.pointer a,.string g] w R:=wk Tryz.func135
theorem vx:Wk ⟨⟨[(3,[(4,.slice none 0 0),(11,.int .i64 0)])],[],[],[],[]⟩,false,[]⟩ Tryz.f136 136 rfl rfl #[.slice a b i] w R:=wk Tryz.func136
theorem tE:Wk N0_ Tryz.f138 138 rfl rfl #[.pointer a] w R:=wk Tryz.func138
theorem n_:Wk N0_ Tryz.f139 139 rfl rfl #[.pointer a] w R:=wk Tryz.func139
theorem zq:Wk N0_ Tryz.f140 140 rfl rfl #[.int .i64 c] w R:=wk Tryz.func140
theorem dw:Wk N1_ Tryz.f141 141 rfl rfl #[.map f] w R:=wk Tryz.func141
theorem vy:Wk ⟨⟨[],[],[1],[],[(1,⟨[0,1,0,4,10,0,32,64,0,256,512,1168,0,4096,8192,0,32768,65536,149504,264208,786432,2097151],[4194303,4194302,4194303,4194299,4194293,4194303,4194271,4194239,4194303,4194047,4193791,4193151,4194303,4190207,4186111,4194303,4161535,4128767,4046847,3930095,3670015,3145727],[0,1,0,1,2,0,0,1,0,0,1,2,0,0,1,0,0,1,2,2,2,0]⟩)]⟩,true,[]⟩ Tryz.f143 143 rfl rfl #[.agg #[.int .i64 c,.int .i64 j,.int .i64 n,.slice a b i,.int .i64 p,.int .i64 q,.int .i64 r,.int .i64 s,.int .i64 t,.int .i64 u],.agg #[.int .i64 v,.int .i64 x,.int .i64 y,.slice h m o,.int .i64 z,.int .i64 A,.int .i64 B,.int .i64 C,.int .i64 D,.int .i64 E]] w R:=wk Tryz.func143
theorem xM:Wk ⟨⟨[(3,[(15,.int .i64 0)]),(7,[(24,.int .i64 0)])],[],[],[],[]⟩,true,[]⟩ Tryz.f144 144 rfl rfl #[.agg #[.slice a b i,.slice h m o]] w R:=wk Tryz.func144
theorem Ek:Wk N1_ Tryz.f146 146 rfl rfl #[.agg #[.int .i64 c,.int .i64 j,.int .i64 n,.slice a b i,.int .i64 p,.int .i64 q,.int .i64 r,.int .i64 s,.int .i64 t,.int .i64 u]] w R:=wk Tryz.func146
theorem BM:Wk ⟨⟨[],[],[],[],[(4,⟨[0,1,2,6,8,24,40,8,136,328,520,1032],[4095,4094,4093,4091,4087,4071,4055,4087,3959,3767,3575,3071],[0,2,0,0,0,0,1,0,1,0,0,0]⟩)]⟩,true,[]⟩ Tryz.f147 147 rfl rfl #[.agg #[.slice a b i,.slice h m o],.int .i64 c,.int .i64 j,.int .i64 n,.int .i64 p] w R:=wk Tryz.func147
theorem El:Wk ⟨⟨[(3,[(11,.int .i64 0)])],[],[5],[],[(5,⟨[0,1,0,0,8,0,48,64,128,256,1023,2047,3071],[8191,8190,8191,8191,8183,8191,8143,8127,8063,7935,8185,7167,5631],[0,1,0,0,1,0,0,0,1,2,0,0,2]⟩)]⟩,true,[]⟩ Tryz.f149 149 rfl rfl #[.agg #[.int .i64 c,.slice a b i]] w R:=wk Tryz.func149
theorem DT:Wk N1_ Tryz.f150 150 rfl rfl #[] w R:=wk Tryz.func150
theorem xN:Wk N0_ Tryz.f151 151 rfl rfl #[.agg #[.int .i64 c,.int .i64 j,.int .i64 n,.slice a b i,.int .i64 p,.int .i64 q,.int .i64 r,.int .i64 s,.int .i64 t,.int .i64 u]] w R:=wk Tryz.func151
theorem qL:Wk N0_ Tryz.f152 152 rfl rfl #[.pointer a,.string g,.slice h b i] w R:=wk Tryz.func152
theorem tF:Wk ⟨⟨[],[],[],[],[(1,⟨[0,1,2,4,0,16,32,64,128,256,520,1024,2048,8191],[16383,16382,16381,16379,16383,16367,16351,16319,16255,16127,15863,15359,14335,12287],[0,0,0,1,0,0,0,1,0,0,0,1,2,0]⟩)]⟩,false,[]⟩ Tryz.f153 153 rfl rfl #[.pointer a] w R:=wk Tryz.func153
theorem tG:Wk N0_ Tryz.f154 154 rfl rfl #[.pointer a,.string g] w R:=wk Tryz.func154
end Go.Proofs.YthnilpgpacdmnaaGreatDoor
