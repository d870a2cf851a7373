import Derived.Test.YthnilpgpacdmnaaGreatDoorYCodeA
namespace Go.Proofs.YthnilpgpacdmnaaGreatDoor
open Go.au
variable {a h:Option Addr} {b i l n p r:Nat} {c:FuncId} {d j:Array Value} {e:ByteArray} {f k m o q s t u v x y z A B C D E F:Int} {g:Bool}
variable {w:World} {R:Ending->World->Prop}
set_option maxRecDepth 100000
set_option linter.unusedVariables false
theorem Gx:Wk ⟨⟨[(4,[(20,.int .i64 0)]),(9,[(31,.int .i64 0)]),(13,[(49,.int .i64 0)])],[],[10],[10],[]⟩,false,[]⟩ Tryz.f235 235 rfl rfl #[.slice a b i] w R:=wk Tryz.func235
theorem sx:Wk N0_ Tryz.f236 236 rfl rfl #[.pointer a,.pointer (some ⟨b,i,none⟩)] w R:=wk Tryz.func236
theorem sC:Wk ⟨⟨[],[(4,[])],[],[],[]⟩,false,[]⟩ Tryz.f237 237 rfl rfl #[.pointer a,.func (.func c) d j] w R:=wk Tryz.func237
theorem og:Wk ⟨⟨[],[],[7],[],[]⟩,false,[]⟩ Tryz.f238 238 rfl rfl #[.pointer (some ⟨b,i,none⟩),.pointer (some ⟨l,n,none⟩)] w R:=wk Tryz.func238
theorem zu:Wk N0_ Tryz.f239 239 rfl rfl #[.string e] w R:=wk Tryz.func239
theorem gT:Wk N0_ Tryz.f240 240 rfl rfl #[.slice a b i,.string e] w R:=wk Tryz.func240
theorem oh:Wk N0_ Tryz.f242 242 rfl rfl #[.pointer a,.pointer (some ⟨b,i,none⟩),.pointer (some ⟨l,n,none⟩),.pointer (some ⟨p,r,none⟩)] w R:=wk Tryz.func242
theorem jH:Wk ⟨⟨[(2,[(8,.int .i64 0)])],[],[],[],[]⟩,true,[]⟩ Tryz.f243 243 rfl rfl #[.slice a b i,.func (.func c) d j] w R:=wk Tryz.func243
theorem tL:Wk N1_ Tryz.f244 244 rfl rfl #[.pointer a,.agg #[.int .i64 f,.int .i64 k,.int .i64 m,.slice h b i,.int .i64 o,.int .i64 q,.int .i64 s,.int .i64 t,.int .i64 u,.int .i64 v],.int .i64 x] w R:=wk Tryz.func244
theorem vF:Wk ⟨⟨[],[(8,[(31,.bool false)])],[],[],[]⟩,true,[]⟩ Tryz.f245 245 rfl rfl #[.pointer a,.agg #[.int .i64 f,.int .i64 k,.int .i64 m],.int .i64 o] w R:=wk Tryz.func245
theorem ey:Wk N1_ Tryz.f246 246 rfl rfl #[.slice a b i,.func (.func c) d j] w R:=wk Tryz.func246
theorem nN:Wk N1_ Tryz.f247 247 rfl rfl #[.agg #[.int .i64 f,.int .i64 k,.int .i64 m,.slice a b i,.int .i64 o,.int .i64 q,.int .i64 s,.int .i64 t,.int .i64 u,.int .i64 v],.pointer (some ⟨l,n,none⟩)] w R:=wk Tryz.func247
theorem cU:Wk ⟨⟨[(3,[(9,.int .i64 0),(10,.int .i64 0)])],[],[],[],[(8,⟨[0,0,0,6,8,16,16,16,208,272,16,1584,2064,4112,2049,32767],[65535,65535,65535,65529,65527,65519,65519,65519,65327,65263,65519,63951,63471,61423,65534,57343],[0,0,0,0,0,0,0,0,0,1,1,2,0,0,0,0]⟩)]⟩,true,[]⟩ Tryz.f248 248 rfl rfl #[.slice a b i,.agg #[.int .i64 f,.int .i64 k,.int .i64 m,.slice h l n,.int .i64 o,.int .i64 q,.int .i64 s,.int .i64 t,.int .i64 u,.int .i64 v],.func (.func c) d j] w R:=wk Tryz.func248
theorem vb:Wk ⟨⟨[],[],[1],[],[(1,⟨[0,1,0,4,10,0,32,64,0,256,512,1168,0,4096,8192,0,32768,65536,149504,264208,786432,2097151],[4194303,4194302,4194303,4194299,4194293,4194303,4194271,4194239,4194303,4194047,4193791,4193151,4194303,4190207,4186111,4194303,4161535,4128767,4046847,3930095,3670015,3145727],[0,1,0,1,2,0,0,1,0,0,1,2,0,0,1,0,0,1,2,2,2,0]⟩)]⟩,true,[]⟩ Tryz.f249 249 rfl rfl #[.agg #[.int .i64 f,.int .i64 k,.int .i64 m,.slice a b i,.int .i64 o,.int .i64 q,.int .i64 s,.int .i64 t,.int .i64 u,.int .i64 v],.agg #[.int .i64 x,.int .i64 y,.int .i64 z,.slice h l n,.int .i64 A,.int .i64 B,.int .i64 C,.int .i64 D,.int .i64 E,.int .i64 F]] w R:=wk Tryz.func249
theorem lF:Wk N1_ Tryz.f251 251 rfl rfl #[.agg #[.int .i64 f,.int .i64 k,.int .i64 m,.slice a b i,.int .i64 o,.int .i64 q,.int .i64 s,.int .i64 t,.int .i64 u,.int .i64 v],.pointer (some ⟨l,n,none⟩)] w R:=wk Tryz.func251
theorem vG:Wk ⟨⟨[],[],[1],[],[(1,⟨[0,1,2,4,0,24,32,64,64,0,767,2047],[4095,4094,4093,4091,4095,4071,4063,4031,4031,4095,3455,3839],[0,0,0,1,1,1,0,0,0,2,2,0]⟩)]⟩,true,[]⟩ Tryz.f252 252 rfl rfl #[.pointer a,.agg #[.int .i64 f,.int .i64 k]] w R:=wk Tryz.func252
theorem eS:Wk ⟨⟨[(5,[(5,.int .i64 0),(6,.int .i64 0)])],[],[],[],[]⟩,true,[]⟩ Tryz.f253 253 rfl rfl #[.slice a b i,.func (.func c) d j] w R:=wk Tryz.func253
theorem lG:Wk N1_ Tryz.f254 254 rfl rfl #[.agg #[.int .i64 f,.int .i64 k,.int .i64 m,.slice a b i,.int .i64 o,.int .i64 q,.int .i64 s,.int .i64 t,.int .i64 u,.int .i64 v],.pointer (some ⟨l,n,none⟩)] w R:=wk Tryz.func254
theorem eU:Wk ⟨⟨[(2,[(8,.int .i64 0)])],[],[],[],[]⟩,true,[]⟩ Tryz.f255 255 rfl rfl #[.slice a b i,.func (.func c) d j] w R:=wk Tryz.func255
theorem fw:Wk N1_ Tryz.f256 256 rfl rfl #[.slice a b i,.int .i64 f,.int .i64 k] w R:=wk Tryz.func256
theorem mK:Wk ⟨⟨[(2,[(8,.int .i64 0)])],[],[],[],[]⟩,false,[]⟩ Tryz.f260 260 rfl rfl #[.slice a b i,.int .i64 f] w R:=wk Tryz.func260
theorem tM:Wk N0_ Tryz.f261 261 rfl rfl #[.pointer (some ⟨b,i,none⟩),.pointer (some ⟨l,n,none⟩),.pointer (some ⟨p,r,none⟩)] w R:=wk Tryz.func261
theorem xV:Wk N1_ Tryz.f273 273 rfl rfl #[.int .i64 f] w R:=wk Tryz.func273
theorem sD:Wk N1_ Tryz.f274 274 rfl rfl #[.agg #[.int .i64 f,.int .i64 k,.bool g,.slice a b i],.int .i64 m,.int .i64 o,.int .i64 q,.int .i64 s] w R:=wk Tryz.func274
theorem BN:Wk N1_ Tryz.f275 275 rfl rfl #[.agg #[.int .i64 f,.int .i64 k,.int .i64 m,.slice a b i,.int .i64 o,.int .i64 q,.int .i64 s,.int .i64 t,.int .i64 u,.int .i64 v],.agg #[.int .i64 x,.int .i64 y,.int .i64 z,.slice h l n,.int .i64 A,.int .i64 B,.int .i64 C,.int .i64 D,.int .i64 E,.int .i64 F]] w R:=wk Tryz.func275
theorem It:Wk N1_ Tryz.f276 276 rfl rfl #[.int .i64 f,.int .i64 k] w R:=wk Tryz.func276
theorem lM:Wk N1_ Tryz.f279 279 rfl rfl #[.slice a b i,.int .i64 f,.int .i64 k] w R:=wk Tryz.func279
theorem BO:Wk ⟨⟨[(1,[(7,.int .i64 0)])],[],[],[],[]⟩,false,[]⟩ Tryz.f280 280 rfl rfl #[.slice a b i,.pointer (some ⟨l,n,none⟩)] w R:=wk Tryz.func280
theorem LJ:Wk N0_ Tryz.f282 282 rfl rfl #[.slice a b i] w R:=wk Tryz.func282
theorem zv:Wk ⟨⟨[(2,[(2,.int .u32 0),(7,.int .i64 0)])],[],[],[],[]⟩,false,[]⟩ Tryz.f288 288 rfl rfl #[.slice a b i] w R:=wk Tryz.func288
theorem vH:Wk N0_ Tryz.f292 292 rfl rfl #[.int .i32 f] w R:=wk Tryz.func292
theorem mU:Wk N0_ Tryz.f293 293 rfl rfl #[.string e,.int .i32 f] w R:=wk Tryz.func293
theorem mV:Wk N0_ Tryz.f294 294 rfl rfl #[.string e,.func (.func c) d j] w R:=wk Tryz.func294
theorem iY:Wk ⟨⟨[(2,[(8,.int .i64 0)])],[],[],[],[]⟩,false,[]⟩ Tryz.f295 295 rfl rfl #[.slice a b i,.string e] w R:=wk Tryz.func295
theorem Gy:Wk N0_ Tryz.f296 296 rfl rfl #[.int .i64 f] w R:=wk Tryz.func296
theorem zy:Wk ⟨⟨[],[],[1],[],[(1,⟨[0,1,0,4,8,18,0,64,128,288,1023],[2047,2046,2047,2043,2039,2029,2047,1983,1919,1759,1535],[0,1,0,0,1,2,0,0,1,0,0]⟩)]⟩,true,[]⟩ Tryz.f307 307 rfl rfl #[.agg #[.int .i64 f,.int .i64 k,.int .i64 m,.slice a b i,.int .i64 o,.int .i64 q,.int .i64 s,.int .i64 t,.int .i64 u,.int .i64 v],.agg #[.int .i64 x,.int .i64 y,.int .i64 z,.slice h l n,.int .i64 A,.int .i64 B,.int .i64 C,.int .i64 D,.int .i64 E,.int .i64 F]] w R:=wk Tryz.func307
theorem yN:Wk N1_ Tryz.f308 308 rfl rfl #[.int .i64 f,.int .i64 k] w R:=wk Tryz.func308
theorem rW:Wk N1_ Tryz.f309 309 rfl rfl #[.int .i64 f] w R:=wk Tryz.func309
theorem qS:Wk N0_ Tryz.f319 319 rfl rfl #[.string e,.func (.func c) d j] w R:=wk Tryz.func319
theorem k_:Wk N0_ Tryz.f345 345 rfl rfl #[.int .i32 f] w R:=wk Tryz.func345
theorem qT:Wk ⟨⟨[(2,[])],[],[],[],[]⟩,false,[]⟩ Tryz.f348 348 rfl rfl #[.string e,.func (.func c) d j,.bool g] w R:=wk Tryz.func348
theorem nJ:Wk N1_ Tryz.f384 384 rfl rfl #[.pointer a] w R:=wk Tryz.func384
theorem rU:Wk N1_ Tryz.f385 385 rfl rfl #[.pointer a,.int .i64 f] w R:=wk Tryz.func385
theorem qz:Wk N1_ Tryz.f386 386 rfl rfl #[.pointer a,.int .i64 f,.int .i64 k] w R:=wk Tryz.func386
theorem qU:Wk ⟨⟨[(3,[(12,.int .i64 0)])],[],[],[],[]⟩,true,[]⟩ Tryz.f387 387 rfl rfl #[.pointer a] w R:=wk Tryz.func387
theorem vI:Wk ⟨⟨[(3,[(3,.slice none 0 0)])],[],[],[],[]⟩,true,[16]⟩ Tryz.f388 388 rfl rfl #[.pointer a] w R:=wk Tryz.func388
theorem fI:Wk N1_ Tryz.f389 389 rfl rfl #[.slice a b i] w R:=wk Tryz.func389
theorem sE:Wk N1_ Tryz.f391 391 rfl rfl #[.agg #[.int .i64 f,.int .i64 k,.int .i64 m],.agg #[.int .i64 o,.int .i64 q,.int .i64 s]] w R:=wk Tryz.func391
theorem nP:Wk ⟨⟨[(3,[(19,.int .i64 0)]),(12,[(8,.slice none 0 0),(11,.int .i64 0)])],[],[],[],[]⟩,true,[59]⟩ Tryz.f190 190 rfl rfl #[.pointer a,.pointer h] w R:=wk Tryz.func190
theorem wD:Wk N0_ Tryz.f290 290 rfl rfl #[.bool g,.int .i64 f] w R:=wk Tryz.func290
theorem sF:Wk ⟨⟨[],[],[],[],[(1,⟨[0,0,2,4,8,16,0,64,128,256,544,1025,2048],[8191,8191,8189,8187,8183,8175,8191,8127,8063,7935,7647,7166,6143],[0,0,0,0,1,0,0,0,0,1,0,0,2]⟩)]⟩,false,[]⟩ Tryz.f291 291 rfl rfl #[.pointer a,.int .i64 f] w R:=wk Tryz.func291
end Go.Proofs.YthnilpgpacdmnaaGreatDoor
