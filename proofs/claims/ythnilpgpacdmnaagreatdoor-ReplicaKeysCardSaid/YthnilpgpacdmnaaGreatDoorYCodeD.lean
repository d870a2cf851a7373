import Derived.Test.YthnilpgpacdmnaaGreatDoorYCodeA
namespace Go.Proofs.YthnilpgpacdmnaaGreatDoor
open Go.au
variable {a i n:Option Addr} {b j o q s u:Nat} {c:FuncId} {d k:Array Value} {e l p r t v x y z A B C D E F G H I J K:Int} {f:Bool} {g m:ByteArray} {h:Option Nat}
variable {w:World} {R:Ending->World->Prop}
set_option maxRecDepth 100000
set_option linter.unusedVariables false
theorem xO:Wk ⟨⟨[(4,[(5,.int .i64 0)])],[],[],[],[(6,⟨[0,0,3,4,8,0,0,96,128,256,528,1024,2048,2048,14336,18432,34816,2048,2048,395264,526336,1050624,2164736,4196352,8390656],[33554431,33554431,33554428,33554427,33554423,33554431,33554431,33554335,33554303,33554175,33553903,33553407,33552383,33552383,33540095,33535999,33519615,33552383,33552383,33159167,33028095,32503807,31389695,29358079,25163775],[0,0,0,0,1,0,0,0,0,1,0,0,0,0,0,0,1,0,0,0,0,1,2,0,0]⟩)]⟩,true,[]⟩ Tryz.f155 155 rfl rfl #[.slice a b j,.slice i o q] w R:=wk Tryz.func155
theorem zr:Wk N1_ Tryz.f156 156 rfl rfl #[.slice a b j,.func (.func c) d k] w R:=wk Tryz.func156
theorem xP:Wk N1_ Tryz.f157 157 rfl rfl #[.agg #[.int .i64 e,.int .i64 l,.int .i64 p,.slice a b j,.int .i64 r,.int .i64 t,.int .i64 v,.int .i64 x,.int .i64 y,.int .i64 z,.bool f,.int .i64 A,.int .i64 B],.pointer (some ⟨o,q,none⟩),.pointer (some ⟨s,u,none⟩)] w R:=wk Tryz.func157
theorem xQ:Wk N1_ Tryz.f158 158 rfl rfl #[.agg #[.int .i64 e,.int .i64 l,.int .i64 p,.slice a b j,.int .i64 r,.int .i64 t,.int .i64 v,.int .i64 x,.int .i64 y,.int .i64 z,.bool f,.int .i64 A,.int .i64 B]] w R:=wk Tryz.func158
theorem zt:Wk N1_ Tryz.f160 160 rfl rfl #[.int .i64 e,.pointer (some ⟨b,j,none⟩),.pointer (some ⟨o,q,none⟩)] w R:=wk Tryz.func160
theorem ft:Wk ⟨⟨[(2,[(8,.int .i64 0)])],[],[],[],[]⟩,true,[]⟩ Tryz.f162 162 rfl rfl #[.slice a b j,.func (.func c) d k] w R:=wk Tryz.func162
theorem rO:Wk ⟨⟨[(3,[(21,.int .i64 0)])],[(2,[(5,.pointer (some ⟨0,0,none⟩))])],[1,5],[5],[(1,⟨[0,1,2,4,0,16,32,64,136,256,0,2047],[4095,4094,4093,4091,4095,4079,4063,4031,3959,3839,4095,2559],[0,0,0,1,0,0,0,1,2,0,2,2]⟩)]⟩,true,[]⟩ Tryz.f163 163 rfl rfl #[.pointer a,.agg #[.pointer i,.slice n b j]] w R:=wk Tryz.func163
theorem tH:Wk N0_ Tryz.f164 164 rfl rfl #[.pointer a] w R:=wk Tryz.func164
theorem vz:Wk ⟨⟨[(6,[(6,.int .i64 0)])],[],[],[],[]⟩,false,[]⟩ Tryz.f165 165 rfl rfl #[.string g] w R:=wk Tryz.func165
theorem ku:Wk N0_ Tryz.f166 166 rfl rfl #[.pointer a,.string g] w R:=wk Tryz.func166
theorem Gv:Wk N0_ Tryz.f168 168 rfl rfl #[.slice a b j] w R:=wk Tryz.func168
theorem qM:Wk N0_ Tryz.f169 169 rfl rfl #[.pointer a,.int .i64 e] w R:=wk Tryz.func169
theorem tI:Wk N0_ Tryz.f170 170 rfl rfl #[.pointer a] w R:=wk Tryz.func170
theorem sq:Wk N0_ Tryz.f171 171 rfl rfl #[.pointer a] w R:=wk Tryz.func171
theorem vA:Wk N0_ Tryz.f173 173 rfl rfl #[.pointer a,.string g,.int .i64 e] w R:=wk Tryz.func173
theorem qN:Wk N0_ Tryz.f174 174 rfl rfl #[.pointer a,.string g] w R:=wk Tryz.func174
theorem vB:Wk N0_ Tryz.f177 177 rfl rfl #[.pointer a] w R:=wk Tryz.func177
theorem sr:Wk N0_ Tryz.f178 178 rfl rfl #[.pointer (some ⟨b,j,none⟩)] w R:=wk Tryz.func178
theorem ss:Wk N0_ Tryz.f179 179 rfl rfl #[.pointer (some ⟨b,j,none⟩)] w R:=wk Tryz.func179
theorem su:Wk ⟨⟨[],[],[1],[],[]⟩,false,[]⟩ Tryz.f180 180 rfl rfl #[.pointer (some ⟨b,j,none⟩),.pointer (some ⟨o,q,none⟩)] w R:=wk Tryz.func180
theorem vC:Wk ⟨⟨[(3,[(3,.slice none 0 0),(15,.int .i64 0)])],[],[],[],[]⟩,false,[]⟩ Tryz.f181 181 rfl rfl #[.agg #[.slice a b j]] w R:=wk Tryz.func181
theorem sv:Wk N0_ Tryz.f182 182 rfl rfl #[.pointer (some ⟨b,j,none⟩)] w R:=wk Tryz.func182
theorem sw:Wk N0_ Tryz.f183 183 rfl rfl #[.pointer (some ⟨b,j,none⟩)] w R:=wk Tryz.func183
theorem qO:Wk N0_ Tryz.f184 184 rfl rfl #[.pointer a,.string g,.string m] w R:=wk Tryz.func184
theorem xR:Wk N1_ Tryz.f185 185 rfl rfl #[.int .i64 e] w R:=wk Tryz.func185
theorem iC:Wk N1_ Tryz.f186 186 rfl rfl #[.slice a b j,.func (.func c) d k] w R:=wk Tryz.func186
theorem xS:Wk N1_ Tryz.f187 187 rfl rfl #[.pointer a,.agg #[.int .i64 e,.int .i64 l,.int .i64 p,.slice i b j,.int .i64 r,.int .i64 t,.int .i64 v,.int .i64 x,.int .i64 y,.int .i64 z,.bool f,.int .i64 A,.int .i64 B],.int .i64 C] w R:=wk Tryz.func187
theorem xr:Wk N1_ Tryz.f188 188 rfl rfl #[.agg #[.int .i64 e,.int .i64 l,.int .i64 p,.slice a b j,.int .i64 r,.int .i64 t,.int .i64 v,.int .i64 x,.int .i64 y,.int .i64 z]] w R:=wk Tryz.func188
theorem qA:Wk ⟨⟨[],[],[1,5],[5],[(1,⟨[0,1,2,4,8,0,32,64,128,272,512,1024,3072,5120,9216,1024,50176,66560],[262143,262142,262141,262139,262135,262143,262111,262079,262015,261871,261631,261119,259071,257023,252927,261119,211967,195583],[0,0,0,1,0,0,0,0,1,0,0,0,0,0,1,2,2,0]⟩),(4,⟨[0,1,2,4,0,24,32,64,64,255,1023],[2047,2046,2045,2043,2047,2023,2015,1983,1983,1919,1791],[0,0,0,1,1,2,0,0,0,0,0]⟩),(5,⟨[0,0,2,4,8,0,0,64,176,511,1023,1535],[4095,4095,4093,4091,4087,4095,4095,4031,3919,4094,3583,2815],[0,0,0,0,1,0,1,2,2,0,0,2]⟩)]⟩,true,[44]⟩ Tryz.f189 189 rfl rfl #[.pointer a,.agg #[.int .i64 e,.int .i64 l,.int .i64 p,.slice i b j,.int .i64 r,.int .i64 t,.int .i64 v,.int .i64 x,.int .i64 y,.int .i64 z]] w R:=wk Tryz.func189
theorem gS:Wk N1_ Tryz.f192 192 rfl rfl #[.map h] w R:=wk Tryz.func192
theorem kZ:Wk N0_ Tryz.f193 193 rfl rfl #[.slice a b j] w R:=wk Tryz.func193
theorem jZ:Wk N0_ Tryz.f195 195 rfl rfl #[.slice a b j,.int .i64 e] w R:=wk Tryz.func195
theorem xU:Wk N0_ Tryz.f196 196 rfl rfl #[.pointer a,.string g,.func (.func c) d k] w R:=wk Tryz.func196
theorem ob:Wk N0_ Tryz.f197 197 rfl rfl #[.pointer a,.pointer (some ⟨b,j,none⟩),.pointer (some ⟨o,q,none⟩)] w R:=wk Tryz.func197
theorem Em:Wk ⟨⟨[(3,[(8,.int .i64 0)])],[],[],[],[]⟩,true,[]⟩ Tryz.f203 203 rfl rfl #[.slice a b j] w R:=wk Tryz.func203
theorem tJ:Wk N1_ Tryz.f204 204 rfl rfl #[.int .i64 e,.int .i64 l] w R:=wk Tryz.func204
theorem vD:Wk ⟨⟨[],[(2,[(7,.bool false)])],[],[],[]⟩,true,[]⟩ Tryz.f205 205 rfl rfl #[.agg #[.int .i64 e,.int .i64 l,.bool f,.slice a b j],.agg #[.int .i64 p,.int .i64 r,.int .i64 t,.slice i o q,.int .i64 v,.int .i64 x,.int .i64 y,.int .i64 z,.int .i64 A,.int .i64 B],.agg #[.int .i64 C,.int .i64 D,.int .i64 E,.slice n s u,.int .i64 F,.int .i64 G,.int .i64 H,.int .i64 I,.int .i64 J,.int .i64 K]] w R:=wk Tryz.func205
theorem gi:Wk N1_ Tryz.f207 207 rfl rfl #[.slice a b j] w R:=wk Tryz.func207
theorem Bw:Wk N1_ Tryz.f208 208 rfl rfl #[.agg #[.int .i64 e,.int .i64 l,.bool f,.slice a b j,.slice i o q,.int .i64 p,.int .i64 r]] w R:=wk Tryz.func208
theorem yU:Wk ⟨⟨[],[],[1],[],[(1,⟨[0,1,2,4,8,0,32,80,255,511,767],[2047,2046,2045,2043,2039,2047,2015,1967,2045,1791,1407],[1,2,0,0,1,0,1,0,0,0,2]⟩)]⟩,true,[]⟩ Tryz.f209 209 rfl rfl #[.agg #[.int .i64 e,.int .i64 l,.bool f,.slice a b j,.slice i o q,.int .i64 p,.int .i64 r]] w R:=wk Tryz.func209
theorem xv:Wk N1_ Tryz.f210 210 rfl rfl #[.agg #[.int .i64 e,.int .i64 l,.bool f,.slice a b j,.slice i o q,.int .i64 p,.int .i64 r]] w R:=wk Tryz.func210
theorem rl:Wk N1_ Tryz.f211 211 rfl rfl #[.agg #[.int .i64 e,.int .i64 l,.bool f,.slice a b j,.slice i o q,.int .i64 p,.int .i64 r]] w R:=wk Tryz.func211
theorem yV:Wk ⟨⟨[],[],[1],[],[]⟩,true,[]⟩ Tryz.f212 212 rfl rfl #[.agg #[.int .i64 e,.int .i64 l,.bool f,.slice a b j,.slice i o q,.int .i64 p,.int .i64 r]] w R:=wk Tryz.func212
theorem By:Wk ⟨⟨[],[],[1],[],[(1,⟨[0,1,2,4,8,0,32,82,128,256,256,1023,4095],[8191,8190,8189,8187,8183,8191,8159,8111,8063,7935,7935,7679,7167],[1,2,0,0,1,0,1,2,0,0,0,0,0]⟩)]⟩,true,[]⟩ Tryz.f213 213 rfl rfl #[.agg #[.int .i64 e,.int .i64 l,.bool f,.slice a b j,.slice i o q,.int .i64 p,.int .i64 r]] w R:=wk Tryz.func213
theorem Iy:Wk ⟨⟨[],[],[4],[4],[(2,⟨[0,1,2,4,0,16,40,64,128,128,511,2047],[4095,4094,4093,4091,4095,4079,4055,4031,3967,3967,3839,3583],[0,0,0,1,0,1,2,0,0,0,0,0]⟩),(4,⟨[0,0,2,4,8,0,0,64,128,304,1023,2047,3071],[8191,8191,8189,8187,8183,8191,8191,8127,8063,7887,8190,7167,5631],[0,0,0,0,1,0,0,1,2,2,0,0,2]⟩)]⟩,true,[]⟩ Tryz.f214 214 rfl rfl #[.agg #[.int .i64 e,.int .i64 l,.bool f,.slice a b j,.slice i o q,.int .i64 p,.int .i64 r]] w R:=wk Tryz.func214
theorem Bz:Wk ⟨⟨[],[],[],[],[(2,⟨[0,1,2,4,0,16,40,64,128,128,511,2047],[4095,4094,4093,4091,4095,4079,4055,4031,3967,3967,3839,3583],[0,0,0,1,0,1,2,0,0,0,0,0]⟩)]⟩,true,[]⟩ Tryz.f215 215 rfl rfl #[.agg #[.int .i64 e,.int .i64 l,.bool f,.slice a b j,.slice i o q,.int .i64 p,.int .i64 r]] w R:=wk Tryz.func215
theorem yS:Wk ⟨⟨[],[],[2],[],[(2,⟨[0,1,2,4,8,0,32,80,130,256,768,1280,2304,4096,12288,4096,36864,86016,135168,266240,4096,1052672,2625536,4198656,8388864,33554431],[67108863,67108862,67108861,67108859,67108855,67108863,67108831,67108783,67108735,67108607,67108095,67107583,67106559,67104767,67096575,67104767,67071999,67022847,66973695,66842623,67104767,66056191,64483327,62910207,58719999,50331647],[1,2,0,0,1,0,1,0,0,0,1,0,0,0,1,0,1,0,0,1,0,1,0,0,0,0]⟩)]⟩,true,[]⟩ Tryz.f216 216 rfl rfl #[.agg #[.int .i64 e,.int .i64 l,.bool f,.slice a b j,.slice i o q,.int .i64 p,.int .i64 r]] w R:=wk Tryz.func216
theorem yW:Wk ⟨⟨[],[],[1],[],[(1,⟨[0,1,0,4,8,0,32,80,128,256,1023,2047,3071],[8191,8190,8191,8187,8183,8191,8159,8111,8063,7935,8189,7167,5631],[1,2,0,0,1,0,1,0,0,1,0,0,2]⟩)]⟩,true,[]⟩ Tryz.f217 217 rfl rfl #[.agg #[.int .i64 e,.int .i64 l,.bool f,.slice a b j,.slice i o q,.int .i64 p,.int .i64 r]] w R:=wk Tryz.func217
theorem Gw:Wk N0_ Tryz.f218 218 rfl rfl #[.agg #[.int .i64 e,.int .i64 l,.int .i64 p,.slice a b j,.int .i64 r,.int .i64 t,.int .i64 v,.int .i64 x,.int .i64 y,.int .i64 z]] w R:=wk Tryz.func218
theorem od:Wk ⟨⟨[],[],[1],[],[(3,⟨[0,0,2,4,8,0,48,127,255,383],[1023,1023,1021,1019,1015,1023,975,1022,895,703],[0,0,0,0,1,1,2,0,0,2]⟩)]⟩,false,[]⟩ Tryz.f220 220 rfl rfl #[.pointer a,.pointer (some ⟨b,j,none⟩),.pointer (some ⟨o,q,none⟩)] w R:=wk Tryz.func220
theorem tK:Wk ⟨⟨[(3,[(3,.int .i64 0)])],[],[],[],[]⟩,false,[]⟩ Tryz.f221 221 rfl rfl #[.pointer a] w R:=wk Tryz.func221
theorem qP:Wk N0_ Tryz.f222 222 rfl rfl #[.pointer a] w R:=wk Tryz.func222
theorem il:Wk N1_ Tryz.f224 224 rfl rfl #[.slice a b j] w R:=wk Tryz.func224
theorem vE:Wk ⟨⟨[],[],[1],[],[(1,⟨[0,1,2,4,0,16,32,64,128,264,512,2047],[4095,4094,4093,4091,4095,4079,4063,4031,3967,3831,3583,3071],[0,0,0,1,0,0,0,1,2,0,2,0]⟩)]⟩,true,[6]⟩ Tryz.f225 225 rfl rfl #[.pointer a] w R:=wk Tryz.func225
theorem dx:Wk N0_ Tryz.f227 227 rfl rfl #[.map h] w R:=wk Tryz.func227
theorem oe:Wk N0_ Tryz.f231 231 rfl rfl #[.pointer (some ⟨b,j,none⟩),.pointer (some ⟨o,q,none⟩),.pointer (some ⟨s,u,none⟩)] w R:=wk Tryz.func231
theorem qQ:Wk N0_ Tryz.f232 232 rfl rfl #[.pointer a,.int .i64 e] w R:=wk Tryz.func232
theorem qR:Wk N0_ Tryz.f233 233 rfl rfl #[.pointer (some ⟨b,j,none⟩),.pointer (some ⟨o,q,none⟩)] w R:=wk Tryz.func233
end Go.Proofs.YthnilpgpacdmnaaGreatDoor
