/- SegmentNames: the walk -/
import Derived.Test.YtpmakiecgphijaaDoorSegBack
import Derived.ArgAppend
import Derived.Laws.BytesArg
import Derived.Lib.SlBytesConst
namespace Go.Lift
open Go
theorem txt_get {l : List UInt8} {i : Nat} (h : i < l.length) : (txt l)[i]? = some l[i] := by
  rw [getElem?_pos (txt l) i (by rw [txt_size]; exact h)]
  rfl
theorem conv_txt {P : Program} {src e dst : TypeId} (hs : P.underlying src = some (.slice e)) (he : P.underlying e = some (.int .u8)) (hd : P.underlying dst = some .string) {w : World} {F : Nat → Prop} {a : Option Addr} {n c : Nat} {e' : TypeId} {l : List UInt8}
    (ho : Lst cU8 e' F w a n c l) (hb : l.length ≤ 1000000) {κ ε : Value → World → Prop} (h : κ (.string (txt l)) w) : PRun P (convert src dst (.slice a n c)) w κ ε := by
  have hn := ho.len (by decide)
  have hr : Row cU8 1 w F a n l := ho.row (by decide) (by unfold Big; omega)
  obtain ⟨cs, D0, hown, _, _⟩ := ho.body
  rcases hown.cases with ⟨rfl, rfl, rfl, -⟩ | ⟨g, cur, rfl, hg, -⟩
  · have hl : l = [] := List.eq_nil_of_length_eq_zero hn.symm
    subst hl
    exact PRun.mk (run_convert_bytes_nil w src e hs he 0 0 dst hd) h
  · have hrun := run_convert_bytes_arg w (P := P) src e hs he g 0 n c (l.map fun d => (d.toNat : Int)) (by simp; omega) (fun i hi => by
      obtain ⟨b, off, x, hab, hx, _, hc⟩ := hr.at1 (i := i) hi
      cases hab
      rw [hc]
      simp [List.getD, hx]) dst hd
    have e2 : strOfNums (l.map fun d => (d.toNat : Int)) = txt l := by
      unfold strOfNums txt
      simp [List.map_map, Function.comp_def]
    rw [e2] at hrun
    exact PRun.mk hrun h
theorem Lst.u8 {e : TypeId} {w : World} {a : Option Addr} {n c : Nat} {l : List UInt8} (ho : Own w e 1 a n c (l.map fun x => Value.int .u8 (x.toNat : Int))) : Lst cU8 e (fun b => blk a = some b) w a n c l :=
  ⟨⟨_, fun _ => False, ho, Reps.flat_iff.2 List.map_eq_flatMap, fun _ h => h.elim⟩, fun _ h => h, fun b hb => ho.lt hb⟩
end Go.Lift
namespace Go.Proofs.YtpmakiecgphijaaDoor
open Go.Lift
set_option linter.unusedVariables false
set_option maxRecDepth 20000

theorem ref20_Number {s : ByteArray} {w : World} : Calls Tryd.prog F_ref20_Number #[.string s] w (Ok fun v w' => v = .tuple #[.int .i64 (segNoV s).1, .bool (segNoV s).2] ∧ w = w') := by
  rw [← txt_of s]
  generalize s.data.toList = l
  unfold segNoV
  rw [txt_list]
  have no : ∀ w', w = w' → ¬ (l.take 4 = segPre ∧ 5 ≤ l.length ∧ l.length ≤ 16 ∧ (l.drop 4).all isDig = true ∧ ((l.drop 4).head? ≠ some 48 ∨ l.length = 5)) →
      Ok (fun v w' => v = .tuple #[.int .i64 (match segNo l with | some k => ((k : Int), true) | none => (0, false)).1, .bool (match segNo l with | some k => ((k : Int), true) | none => (0, false)).2] ∧ w = w') (.returned (.tuple #[.int .i64 0, .bool false])) w' := fun w' hw h => by
    have : segNo l = none := by unfold segNo; rw [if_neg h]
    rw [this]; exact Ok.mk ⟨rfl, hw⟩
  refine L_ref20_Number ?_
  rw [txt_size]
  refine ⟨fun w' => w = w' ∧ 5 ≤ l.length ∧ l.length ≤ 16 ∧ l.take 4 = segPre ∧ ((l.drop 4).head? ≠ some 48 ∨ l.length = 5),
    PIf.dec (fun h => no _ rfl fun hc => by omega) (fun h5 => PIf.dec (fun h => no _ rfl fun hc => by omega) (fun h16 => ⟨by omega, by omega, ?_⟩)), ?_⟩
  · have e1 : ByteArray.toList (ByteArray.extract (txt l) 0 (Int.toNat 4)) = l.take 4 := by
      rw [ByteArray.toList_eq, ByteArray.data_extract]
      simp [txt]
    have e2 : ByteArray.toList (⟨#[115, 101, 103, 46]⟩ : ByteArray) = segPre := by decide +kernel
    have hhd : (l.drop 4).head? = some (l[4]'(by omega)) := by
      rw [List.head?_drop, List.getElem?_eq_getElem (by omega)]
    rw [e1, e2]
    by_cases hp : l.take 4 = segPre
    · refine PIf.ff (by rw [hp]; simp) ⟨by omega, _, txt_get (i := 4) (by omega), PIf.eqI (fun h48 => PIf.dec (fun hgt => no _ rfl fun hc => ?_) (fun hgt => ⟨rfl, by omega, by omega, hp, .inr (by omega)⟩)) (fun h48 => ⟨rfl, by omega, by omega, hp, .inl ?_⟩)⟩
      · rcases hc.2.2.2.2 with h | h
        · refine h ?_
          rw [hhd]
          congr 1
          exact UInt8.toNat_inj.1 (by show _ = 48; omega)
        · omega
      · rw [hhd]
        intro e
        simp only [Option.some.injEq] at e
        rw [e] at h48
        exact h48 rfl
    · exact PIf.tt (by simp [hp]) (no _ rfl fun hc => hp hc.1)
  · rintro _ _ ⟨rfl, h5, h16, hp, hh⟩
    refine ⟨fun m x i w' => ∃ j : Nat, i = j ∧ 4 ≤ j ∧ j ≤ l.length ∧ m = l.length - j ∧ x = (digVal ((l.drop 4).take (j - 4)) : Int) ∧ ((l.drop 4).take (j - 4)).all isDig = true ∧ w = w', ⟨_, 4, rfl, Nat.le_refl _, by omega, rfl, by simp [digVal], by simp, rfl⟩, ?_⟩
    rintro m x i _ _ ⟨j, rfl, hj4, hj, rfl, rfl, hall, rfl⟩
    have hvlt := digVal_lt _ hall
    have h11 : 10 ^ ((l.drop 4).take (j - 4)).length ≤ 10 ^ 12 := Nat.pow_le_pow_right (by omega) (by simp; omega)
    have e12 : (10 : Nat) ^ 12 = 1000000000000 := by decide
    refine PIf.dec (fun hlt => ?_) (fun hge => ?_)
    · have hjl : j < l.length := by omega
      have hgl : (l.drop 4)[j - 4]? = some l[j] := by
        rw [List.getElem?_drop, show 4 + (j - 4) = j by omega, List.getElem?_eq_getElem hjl]
      have nodig : isDig l[j] = false → ¬ (l.drop 4).all isDig = true := fun hx hc => by
        have := List.all_eq_true.1 hc _ (List.mem_of_getElem? hgl)
        rw [hx] at this; cases this
      refine ⟨by omega, _, by rw [Int.toNat_natCast]; exact txt_get hjl, PIf.dec (fun h => no _ rfl fun hc => nodig ?_ hc.2.2.2.1) (fun h48 => ⟨by omega, _, by rw [Int.toNat_natCast]; exact txt_get hjl, PIf.dec (fun h => no _ rfl fun hc => nodig ?_ hc.2.2.2.1) (fun h57 => ⟨by omega, _, by rw [Int.toNat_natCast]; exact txt_get hjl, _, ?_, j + 1, wrap_succ (by omega), by omega, by omega, rfl, ?_, ?_, rfl⟩)⟩)⟩
      · unfold isDig; exact decide_eq_false (by omega)
      · unfold isDig; exact decide_eq_false (by omega)
      · omega
      · rw [show j + 1 - 4 = (j - 4) + 1 by omega, List.take_add_one, hgl]
        show _ = ((digVal ((l.drop 4).take (j - 4) ++ [_]) : Nat) : Int)
        rw [digVal_snoc, wrap_i64 (x := (((l[j]).toNat : Nat) : Int)) (by unfold I64; omega), wrap_i64 (x := 10 * _) (by unfold I64; omega), wrap_i64 (x := 10 * _ + _) (by unfold I64; omega), wrap_i64 (by unfold I64; omega)]
        omega
      · rw [show j + 1 - 4 = (j - 4) + 1 by omega, List.take_add_one, hgl, List.all_append, hall]
        simp [isDig]; omega
    · obtain rfl : j = l.length := by omega
      rw [List.take_of_length_le (by simp)] at hall ⊢
      have : segNo l = some (digVal (l.drop 4)) := by unfold segNo; rw [if_pos ⟨hp, h5, h16, hall, hh⟩]
      rw [this]
      exact Ok.mk ⟨rfl, rfl⟩

theorem ref20_Name {n : Int} {w : World} (hn : I64 n) : Calls Tryd.prog F_ref20_Name #[.int .i64 n] w (Ok fun v w' => v = .string (txt (segName n)) ∧ Grew w w') := by
  refine L_ref20_Name (PIf.dec (fun h => Ok.mk ⟨by unfold segName; rw [if_pos (.inl h)]; rfl, Keep.refl _⟩) (fun h0 => PIf.dec (fun h => Ok.mk ⟨by unfold segName; rw [if_pos (.inr (by omega))]; rfl, Keep.refl _⟩) (fun h1 => ?_)))
  have hle := decDigits_le (u := n.toNat) (by omega)
  refine ⟨fun m u a k c w' => ∃ (U : Nat) (d : List UInt8) (F : Nat → Prop), u = U ∧ m = U ∧ U < 1000000000000 ∧ Lib.decDigits n.toNat = Lib.decDigits U ++ d.reverse ∧ Lst cU8 5 F w' a k c d ∧ Grew w w' ∧ ∀ b, F b → w.heap.size ≤ b,
    ⟨_, n.toNat, [], fun _ => False, by omega, rfl, by omega, by simp, Lst.nil w, Keep.refl w, fun _ h => h.elim⟩, ?_⟩
  rintro U u a k c _ w1 ⟨_, d, F, rfl, rfl, hU, hd, ho, hk, hF⟩
  have hpos : 0 < (Lib.decDigits U).length := List.length_pos_iff.2 (dec_digits U).2.2.1
  have hdl : d.length ≤ 11 := by
    have := congrArg List.length hd
    rw [List.length_append, List.length_reverse] at this
    omega
  have ex : IntKind.wrap .u8 (IntKind.wrap .i64 (48 + Int.tmod (U : Int) 10)) = (((UInt8.ofNat (48 + U % 10)).toNat : Nat) : Int) := by
    have h1 : Int.tmod (U : Int) 10 = ((U % 10 : Nat) : Int) := by rw [Int.tmod_eq_emod_of_nonneg (by omega)]; omega
    rw [h1, wrap_i64 (by unfold I64; omega), show (48 : Int) + ((U % 10 : Nat) : Int) = ((48 + U % 10 : Nat) : Int) by omega, wrap_u8, UInt8.toNat_ofNat']
  have ed : IntKind.wrap .i64 (Int.tdiv (U : Int) 10) = ((U / 10 : Nat) : Int) := by
    have h1 : Int.tdiv (U : Int) 10 = ((U / 10 : Nat) : Int) := by rw [Int.tdiv_eq_ediv_of_nonneg (by omega)]; omega
    rw [h1, wrap_i64 (by unfold I64; omega)]
  rw [ed]
  have hk' := ho.len (by decide)
  refine papp ho slU8 (x := UInt8.ofNat (48 + U % 10)) (D := fun _ => False) ⟨by rw [ex], trivial⟩ (fun _ h => h.elim) (by unfold Big; omega) (by unfold maxLen; omega) fun a2 c2 w2 F2 ho2 hk2 hF2 _ => ?_
  have k2 : Grew w w2 := hk.new hk2 fun b hb => .inr (hF b (ho.self b hb))
  have hF2' : ∀ b, F2 b → w.heap.size ≤ b := fun b hb => by
    rcases hF2 b hb with h | h | h
    · exact hF b h
    · exact h.elim
    · have := hk.size; omega
  refine ⟨_, _, _, rfl, PIf.eqI (fun hz => ?_) (fun hz => ?_)⟩
  rotate_left
  · refine ⟨U / 10, by omega, U / 10, d ++ [UInt8.ofNat (48 + U % 10)], F2, rfl, rfl, by omega, ?_, ho2, k2, hF2'⟩
    rw [hd, List.reverse_append, Lib.decDigits, dif_neg (by omega), List.append_assoc]
    rfl
  have hU10 : U < 10 := by omega
  have hdig : Lib.decDigits n.toNat = (d ++ [UInt8.ofNat (48 + U % 10)]).reverse := by
    rw [hd, List.reverse_append, Lib.decDigits, dif_pos hU10, Nat.mod_eq_of_lt hU10]
    rfl
  generalize hdd : d ++ [UInt8.ofNat (48 + U % 10)] = e at ho2 hdig
  have hel : e.length = k + 1 := by rw [← hdd]; simp; omega
  refine PRun.mk (Lib.run_convert_bytes_const w2 35 5 _ 4 4 Tryd.underlying35 Tryd.underlying5) ⟨_, _, _, rfl, ?_⟩
  have k3 : Grew w2 (w2.alloc (.cells #[.int .u8 115, .int .u8 101, .int .u8 103, .int .u8 46] 5 (4, 5))) := Keep.alloc _ _
  have g3 : (w2.alloc (.cells #[.int .u8 115, .int .u8 101, .int .u8 103, .int .u8 46] 5 (4, 5))).heap[w2.heap.size]? = some (.cells #[.int .u8 115, .int .u8 101, .int .u8 103, .int .u8 46] 5 (4, 5)) := by
    show (w2.heap.push _)[w2.heap.size]? = _
    simp
  have s3 : (w2.alloc (.cells #[.int .u8 115, .int .u8 101, .int .u8 103, .int .u8 46] 5 (4, 5))).heap.size = w2.heap.size + 1 := by
    show (w2.heap.push _).size = _
    simp
  generalize (w2.alloc (.cells #[.int .u8 115, .int .u8 101, .int .u8 103, .int .u8 46] 5 (4, 5))) = w3 at k3 g3 s3 ⊢
  have ei : IntKind.wrap .i64 (((k + 1 : Nat) : Int) - 1) = (((k + 1 : Nat) : Int) - 1) := wrap_i64 (by unfold I64; omega)
  refine ⟨fun m oa on oc i w' => ∃ q : Nat, i = (q : Int) - 1 ∧ q ≤ k + 1 ∧ m = q ∧ Grew w3 w' ∧ ((q = k + 1 ∧ oa = some ⟨w2.heap.size, 0, none⟩ ∧ on = 4 ∧ oc = 4) ∨ (q < k + 1 ∧ ∃ F : Nat → Prop, Lst cU8 5 F w' oa on oc (segPre ++ (e.drop q).reverse) ∧ ∀ b, F b → w3.heap.size ≤ b)),
    ⟨_, k + 1, ei, Nat.le_refl _, rfl, Keep.refl _, .inl ⟨rfl, rfl, rfl, rfl⟩⟩, ?_⟩
  rintro q oa on oc i _ w4 ⟨_, rfl, hq, rfl, k4, hst⟩
  have k34 : Grew w2 w4 := k3.then k4
  refine PIf.dec (fun hge => ?_) (fun hlt => ?_)
  · have hrow : Row cU8 1 w4 F2 a2 (k + 1) e := (ho2.grew k34).row (by decide) (by unfold Big; omega)
    obtain ⟨b, off, x, rfl, hx, _, hc⟩ := hrow.at1 (i := q - 1) (by omega)
    have en : Int.toNat ((q : Int) - 1) = q - 1 := by omega
    have hdrop : segPre ++ (e.drop (q - 1)).reverse = segPre ++ (e.drop q).reverse ++ [x] := by
      have hlt : q - 1 < e.length := by omega
      rw [List.drop_eq_getElem_cons hlt, List.reverse_cons, List.append_assoc, show q - 1 + 1 = q by omega]
      rw [List.getElem?_eq_getElem hlt] at hx
      cases hx
      rfl
    have ei2 : IntKind.wrap .i64 ((q : Int) - 1 - 1) = ((q - 1 : Nat) : Int) - 1 := by rw [wrap_i64 (by unfold I64; omega)]; omega
    rw [en]
    refine ⟨b, off, rfl, by omega, by omega, _, hc, ?_⟩
    rcases hst with ⟨rfl, rfl, rfl, rfl⟩ | ⟨hqk, F4, ho4, hF4⟩
    · refine PA.mk fun w5 k5 s5 g5 => ?_
      obtain ⟨i, z, hi, hz, hs, hby, hzs⟩ := SlT.info slU8
      have g45 := (k4.then k5).get g3 id
      obtain ⟨v', w6, hrun, hown, hgrow⟩ := run_append_arg_grows (P := Tryd.prog) (w := w5) 35 35 5 i z 1 1 slU8.under hi hz hs hby hzs (by decide)
        ⟨w2.heap.size, 0, none⟩ 4 4 (segPre.map fun x => Value.int .u8 (x.toNat : Int)) rfl (fun j u hj => by
          rw [Addr.add_lit, Nat.zero_add]
          refine cell_at g45 ?_
          rw [← Array.getElem?_toList]
          exact hj)
        ⟨w4.heap.size, 0, none⟩ 1 1 [.int .u8 (x.toNat : Int)] rfl (fun j u hj => by
          rw [Addr.add_lit, Nat.zero_add]
          exact cell_at g5 (by rw [← Array.getElem?_toList]; exact hj)) (by omega) (by unfold maxLen; omega) (by omega)
      have hk6 : Grew w5 w6 := (Keep.of_grownBy hgrow).mono fun _ _ h => by cases h
      have hshape : ∃ a' c', v' = .slice a' 5 c' := by
        rcases hown.2 with ⟨rfl, h0⟩ | ⟨g', cap', cur', rfl, _⟩
        · cases h0
        · exact ⟨_, _, rfl⟩
      obtain ⟨a', c', rfl⟩ := hshape
      have hblk : ∀ b, blk a' = some b → w5.heap.size ≤ b := fun b hb => by
        rcases hown.2 with ⟨_, h0⟩ | ⟨g', cap', cur', h0, hge, _⟩
        · cases h0
        · cases h0; cases hb; exact hge
      have hown' : Own w6 5 1 a' 5 c' ((segPre ++ [x]).map fun x => Value.int .u8 (x.toNat : Int)) := ⟨by
        rw [List.map_append]
        exact ⟨hown.1, hown.2.imp id fun ⟨g', cap', cur', h1, h2, h3⟩ => ⟨g', cap', cur', h1, Nat.zero_le _, h3⟩⟩⟩
      refine PRun.mk hrun ⟨_, _, _, rfl, _, ?_, k, ?_, by omega, rfl, (k4.then k5).then hk6, .inr ⟨by omega, (fun b => blk a' = some b), ?_, fun b hb => ?_⟩⟩
      · omega
      · rw [ei2]; omega
      · have h0 : e.drop (k + 1) = [] := List.drop_of_length_le (by omega)
        rw [show k + 1 - 1 = k by omega, h0] at hdrop
        rw [hdrop]
        exact Lst.u8 hown'
      · have := hblk b hb; have := (k4.then k5).size; omega
    · refine papp ho4 slU8 (x := x) (D := fun _ => False) ⟨rfl, trivial⟩ (fun _ h => h.elim) (by unfold Big; simp [segPre]; omega) (by unfold maxLen; simp [segPre]; omega) fun a5 c5 w5 F5 ho5 hk5 hF5 _ => ?_
      rw [← hdrop] at ho5
      refine ⟨_, _, _, rfl, q - 1, by omega, q - 1, ei2, by omega, rfl, k4.new hk5 fun b hb => .inr (hF4 b (ho4.self b hb)), .inr ⟨by omega, F5, ho5, fun b hb => ?_⟩⟩
      rcases hF5 b hb with h | h | h
      · exact hF4 b h
      · exact h.elim
      · have := k4.size; omega
  · obtain rfl : q = 0 := by omega
    rcases hst with ⟨h0, -⟩ | ⟨_, F4, ho4, hF4⟩
    · omega
    · rw [List.drop_zero, ← hdig, ← segName_yes (by omega) (by omega)] at ho4
      have := segName_length n
      exact conv_txt Tryd.underlying35 Tryd.underlying5 Tryd.underlying9 ho4 (by omega) ⟨_, rfl, Ok.mk ⟨rfl, k2.then k34⟩⟩

theorem SegmentNames {n : Int} {s : ByteArray} {w : World} (hn : I64 n) (hs : s.size ≤ maxLen) (hw : Laid w) : Calls Tryd.prog F_law20_SegmentNames #[.int .i64 n, .string s] w (Ok fun v w' => v = .bool true ∧ Grew w w') := by
  refine L_law20_SegmentNames (PIf.dec (fun h => fin hw (Keep.refl _)) (fun h => PC.ok (seg_Number hw) ?_))
  rintro _ w1 ⟨rfl, k1⟩
  refine ⟨_, _, rfl, PC.ok ref20_Number ?_⟩
  rintro _ _ ⟨rfl, rfl⟩
  refine ⟨_, _, rfl, PC.ok (seg_Name (hw.grew k1) hn) ?_⟩
  rintro _ w2 ⟨rfl, k2⟩
  refine ⟨_, rfl, PC.ok (ref20_Name hn) ?_⟩
  rintro _ w3 ⟨rfl, k3⟩
  exact ⟨_, rfl, PIf.tt (by simp) (PIf.tt (by simp) (PIf.tt (by simp) (fin hw ((k1.then k2).then k3))))⟩
end Go.Proofs.YtpmakiecgphijaaDoor
