/- quaysideref19: the other calls -/
import Derived.Test.YticehdfebghloaaRefD3
namespace Go.Proofs.Yticehdfebghloaa
open Go.Lift
set_option linter.unusedVariables false
set_option maxRecDepth 20000

section
variable {w w' : World} {p : Nat} {F S : Nat → Prop} {D : DiskV} {a : Option Addr} {n cap : Nat} {L : List RB}

/-- a variable for a file -/
theorem file_var {s : ByteArray} {fa : Option Addr} {fn fc : Nat} {i : Int} {g : Bool} {κ : World → Prop} (hκ : ∀ w1, Grew w w1 → w1.heap.size = w.heap.size + 1 → w1.heap[w.heap.size]? = some (.cells #[.string s, .slice fa fn fc, .int .i64 i, .bool g] 73 (0, 0)) → κ w1) :
    PA w (.cells #[.string (⟨#[]⟩ : ByteArray), .slice none 0 0, .int .i64 0, .bool false] 73) fun w2 => PS w2 ⟨w.heap.size, 0, none⟩ (.string s) fun w3 => PS w3 ⟨w.heap.size, 0 + 1, none⟩ (.slice fa fn fc) fun w4 => PS w4 ⟨w.heap.size, 0 + 2, none⟩ (.int .i64 i) fun w5 => PS w5 ⟨w.heap.size, 0 + 3, none⟩ (.bool g) κ := by
  refine PA.mk fun w2 k2 s2 g2 => PS.mk g2 (by simp) fun w3 k3 s3 g3 => ?_
  have g3' : w3.heap[w.heap.size]? = some (.cells #[.string s, .slice none 0 0, .int .i64 0, .bool false] 73 (0, 0)) := by rw [g3]; rfl
  refine PS.mk g3' (by simp) fun w4 k4 s4 g4 => ?_
  have g4' : w4.heap[w.heap.size]? = some (.cells #[.string s, .slice fa fn fc, .int .i64 0, .bool false] 73 (0, 0)) := by rw [g4]; rfl
  refine PS.mk g4' (by simp) fun w5 k5 s5 g5 => ?_
  have g5' : w5.heap[w.heap.size]? = some (.cells #[.string s, .slice fa fn fc, .int .i64 i, .bool false] 73 (0, 0)) := by rw [g5]; rfl
  refine PS.mk g5' (by simp) fun w6 k6 s6 g6 => ?_
  have g6' : w6.heap[w.heap.size]? = some (.cells #[.string s, .slice fa fn fc, .int .i64 i, .bool g] 73 (0, 0)) := by rw [g6]; rfl
  have hk26 : Keep (· = w.heap.size) w2 w6 := ((k3.then k4).then k5).then k6
  exact hκ w6 (k2.new hk26 fun b hb => .inr (by omega)) (by omega) g6'

theorem ref_New {m : Int} : Calls Try.prog F_ref19_New #[.int .i64 m] w (Ok fun v w' =>
    if m < 64 ∨ m > 262144 then v = .tuple #[.pointer none, .int .i64 1] ∧ w' = w
    else ∃ p F, v = .tuple #[.pointer (some ⟨p, 0, none⟩), .int .i64 0] ∧ RefAt w' p F ⟨m.toNat, [], false, 0, false⟩ ∧ Grew w w' ∧ ∀ b, F b → w.heap.size ≤ b) := by
  refine L_ref19_New (PIf.dec (fun h => ?_) (fun h => PIf.dec (fun h2 => ?_) (fun h2 => ?_)))
  · exact Ok.mk (by rw [if_pos (.inl h)]; exact ⟨rfl, rfl⟩)
  · exact Ok.mk (by rw [if_pos (.inr h2)]; exact ⟨rfl, rfl⟩)
  · refine PA.mk fun w1 k1 s1 g1 => Ok.mk ?_
    rw [if_neg (by omega)]
    refine ⟨w.heap.size, (· = w.heap.size), rfl, ⟨none, 0, 0, [], ?_, (Lst.nil w1).mono (fun _ h => h.elim) (fun b hb => (by cases hb)), by simp, by simp, by simp, fun b hb => (by cases hb), by simp, by simp, rfl, fun b hb => by omega⟩, k1, fun b hb => by omega⟩
    rw [g1]
    have : ((m.toNat : Nat) : Int) = m := by omega
    simp [this, rleft]

theorem ref_Delete {k : ByteArray} (h : RefAt w p F D) (hf : D.Fit) (h0 : 0 ≤ D.left) (hR : I64 D.left) : Calls Try.prog F_ref19_Disk_Delete #[.pointer (some ⟨p, 0, none⟩), .string k] w (Ok (RDid w p F (D.delete k))) := by
  refine L_ref19_Disk_Delete (PC.ok (ref_dies h h0 hR) ?_)
  rintro _ w1 ⟨rfl, h1, k1⟩
  refine ⟨_, rfl, PIf.mk (fun hd => Ok.mk (ref_op (g := 0) (args := #[]) (v := .bool true) hd h1 k1)) (fun hd => ?_)⟩
  rw [if_neg (by simp [hd])] at h1
  obtain ⟨a, n, cap, L, hL⟩ := h1
  have hf' := hf.armed
  refine PC.ok (ref_at hL hf') ?_
  rintro _ _ ⟨rfl, i, rfl, hi | ⟨j, x, rfl, hj, hx⟩⟩
  · refine ⟨_, rfl, PIf.tt (decide_eq_true hi.1) (Ok.mk (ref_op' hd k1 ?_))⟩
    rw [onF_none (hL.nof hi.2)]
    exact ⟨F, rfl, ⟨a, n, cap, L, hL⟩, Keep.refl _, fun _ h => .inl h⟩
  · have hget := hL.get hf' (List.mem_of_getElem? hx)
    refine ⟨_, rfl, PIf.ff (decide_eq_false (by omega)) (PC.ok (ref_drop hL hf') ?_)⟩
    rintro _ w2 ⟨rfl, a', n', cap', F', hL2, k2, hn2, -, -⟩
    refine ⟨rfl, Ok.mk (ref_op' hd k1 ?_)⟩
    rw [onF_some hget]
    exact ⟨F', rfl, ⟨_, _, _, _, hL2⟩, k2.mono fun b _ hb => hb ▸ hL.self, hn2⟩

theorem ref_Create {k : ByteArray} (hk : k.size ≤ 1000000) (h : RefAt w p F D) (hf : D.Fit) (h0 : 0 ≤ D.left) (hR : I64 D.left) : Calls Try.prog F_ref19_Disk_Create #[.pointer (some ⟨p, 0, none⟩), .string k] w (Ok (RDid w p F (D.create k))) := by
  refine L_ref19_Disk_Create (PC.ok (ref_dies h h0 hR) ?_)
  rintro _ w1 ⟨rfl, h1, k1⟩
  refine ⟨_, rfl, PIf.mk (fun hd => Ok.mk (ref_op (g := 0) (args := #[]) (v := .bool true) hd h1 k1)) (fun hd => ?_)⟩
  rw [if_neg (by simp [hd])] at h1
  obtain ⟨a, n, cap, L, hL⟩ := h1
  have hf' := hf.armed
  refine PC.ok (ref_isName hk) ?_
  rintro _ _ ⟨rfl, rfl⟩
  have same : ∀ e : Int, RDid w1 p F (e, D.armed) (.int .i64 e) w1 := fun e => ⟨F, rfl, ⟨a, n, cap, L, hL⟩, Keep.refl _, fun _ h => .inl h⟩
  refine ⟨_, rfl, PIf.not (PIf.mk (fun hn => PC.ok (ref_at hL hf') ?_) (fun hn => Ok.mk (ref_op' hd k1 ?_)))⟩
  · rintro _ _ ⟨rfl, i, rfl, hi | ⟨j, x, rfl, hj, hx⟩⟩
    · have hget := hL.nof hi.2
      have hnl := hL.n_eq
      have hll := hL.length hf'
      refine ⟨_, rfl, PIf.ff (decide_eq_false (by omega)) ⟨p, 0, rfl, a, n, cap, cell_at hL.head rfl, PIf.dec (fun h64 => Ok.mk (ref_op' hd k1 ?_)) (fun h64 => ?_)⟩⟩
      · rw [if_pos hn, if_neg (by rw [hget]; simp), if_pos (by omega)]
        exact same 12
      · refine PC.ok (ref_lay hL hf' (k := k) (x := ⟨none, 0, 0, fun _ => False, ⟨[], 0, false⟩⟩) (Lst.nil w1) (fun _ _ _ _ h => h.elim) (fun _ h => h.elim)) ?_
        rintro _ w2 ⟨rfl, F', hR2, hev⟩
        refine ⟨rfl, Ok.mk (ref_op' hd k1 ?_)⟩
        rw [if_pos hn, if_neg (by rw [hget]; simp), if_neg (by omega)]
        exact ⟨F', rfl, hR2, hev⟩
    · have hget := hL.get hf' (List.mem_of_getElem? hx)
      refine ⟨_, rfl, PIf.tt (decide_eq_true (by omega)) (Ok.mk (ref_op' hd k1 ?_))⟩
      rw [if_pos hn, if_pos (by rw [hget]; rfl)]
      exact same 16
  · rw [if_neg (by simp [hn])]
    exact same 1

theorem ref_Rename {k t : ByteArray} (hk : t.size ≤ 1000000) (h : RefAt w p F D) (hf : D.Fit) (h0 : 0 ≤ D.left) (hR : I64 D.left) : Calls Try.prog F_ref19_Disk_Rename #[.pointer (some ⟨p, 0, none⟩), .string k, .string t] w (Ok (RDid w p F (D.rename k t))) := by
  refine L_ref19_Disk_Rename (PC.ok (ref_dies h h0 hR) ?_)
  rintro _ w1 ⟨rfl, h1, k1⟩
  refine ⟨_, rfl, PIf.mk (fun hd => Ok.mk (ref_op (g := 0) (args := #[]) (v := .bool true) hd h1 k1)) (fun hd => ?_)⟩
  rw [if_neg (by simp [hd])] at h1
  obtain ⟨a, n, cap, L, hL⟩ := h1
  have hf' := hf.armed
  refine PC.ok (ref_at hL hf') ?_
  rintro _ _ ⟨rfl, i, rfl, hi | ⟨j, x, rfl, hj, hx⟩⟩
  · refine ⟨_, rfl, PIf.tt (decide_eq_true hi.1) (Ok.mk (ref_op' hd k1 ?_))⟩
    rw [onF_none (hL.nof hi.2)]
    exact ⟨F, rfl, ⟨a, n, cap, L, hL⟩, Keep.refl _, fun _ h => .inl h⟩
  · have hget := hL.get hf' (List.mem_of_getElem? hx)
    refine ⟨_, rfl, PIf.ff (decide_eq_false (by omega)) (PC.ok (ref_isName hk) ?_)⟩
    rintro _ _ ⟨rfl, rfl⟩
    refine ⟨_, rfl, PIf.not (PIf.mk (fun hn => ?_) (fun hn => Ok.mk (ref_op' hd k1 ?_)))⟩
    · obtain ⟨b, off, y, rfl, hy, hym, c0, c1, c2, c3⟩ := hL.at hf' hj
      rw [hx] at hy; cases hy
      have hin := hL.inF _ hym
      have hdom := hL.dom
      refine ⟨p, 0, rfl, _, n, cap, cell_at hL.head rfl, b, off, rfl, by omega, by omega, k, _, _, _, _, _, c0, c1, c2, c3, file_var fun w6 hk16 hs6 g6 => ?_⟩
      have hL6 := hL.grew hk16
      refine PC.ok (ref_drop hL6 hf' (k := k)) ?_
      rintro _ w7 ⟨rfl, a', n', cap', F', hL7, k7, hn7, hF7, ha7⟩
      have hne : w1.heap.size ≠ p := by have := lt_of_get hL.head; omega
      have g7 := k7.get g6 hne
      refine ⟨rfl, PS.mk g7 (by simp) fun w8 k8 s8 g8' => ?_⟩
      have g8 : w8.heap[w1.heap.size]? = some (.cells #[.string t, .slice x.a x.n x.c, .int .i64 x.f.synced, .bool x.f.good] 73 (0, 0)) := by rw [g8']; rfl
      refine PS.mk g8 (by simp) fun w9 k9 s9 g9' => ?_
      have g9 : w9.heap[w1.heap.size]? = some (.cells #[.string t, .slice x.a x.n x.c, .int .i64 x.f.synced, .bool true] 73 (0, 0)) := by rw [g9']; rfl
      refine ⟨t, x.a, x.n, x.c, _, _, cell_at g9 rfl, cell_at g9 rfl, cell_at g9 rfl, cell_at g9 rfl, ?_⟩
      have hk79 : Keep (· = w1.heap.size) w7 w9 := k8.then k9
      have hg7 : ¬ F' w1.heap.size := fun hb => by
        rcases hn7 _ hb with h | h
        · have := hdom _ h; omega
        · omega
      have hL9 := hL7.keep hk79 fun b hb e => hg7 (e ▸ hb)
      have hbx9 : Lst cU8 5 x.F w9 x.a x.n x.c x.f.bytes := (((hL.each _ hym).grew hk16).keep k7 fun b hb => (hin b hb).2.1).keep hk79 fun b hb e => by
        have := hdom b (hin b hb).1; omega
      refine PC.ok (ref_lay hL9 (hf'.del k) (k := t) (x := ⟨x.a, x.n, x.c, x.F, { x.f with good := true }⟩) hbx9 (fun y hy hny b hb hby => ?_) (fun b hb => ⟨hF7 b (hin b hb).1, (hin b hb).2.1⟩)) ?_
      · obtain ⟨hy1, hy2⟩ := List.mem_filter.1 hy
        exact hL.apart _ hym y hy1 (fun e => by have e' : k = y.1 := e; rw [← e'] at hy2; simp at hy2) b hb hby
      · rintro _ w10 ⟨rfl, F10, hR10, hev⟩
        refine ⟨rfl, Ok.mk (ref_op' hd k1 ?_)⟩
        rw [onF_some hget, if_pos hn]
        refine ⟨F10, rfl, hR10, ?_, fun b hb => ?_⟩
        · have e1 : Keep F w1 w9 := ((hk16.keep (S := F)).then (k7.mono fun b _ hb => hb ▸ hL.self)).new hk79 fun b hb => .inr (by omega)
          exact e1.new hev.keep fun b hb => by
            rcases hn7 b hb with h | h
            · exact .inl h
            · have := hk16.size; exact .inr (by omega)
        · rcases hev.new b hb with h | h
          · rcases hn7 b h with h | h
            · exact .inl h
            · have := hk16.size; exact .inr (by omega)
          · have := hk16.size; have := k7.size; have := hk79.size; exact .inr (by omega)
    · rw [onF_some hget, if_neg (by simp [hn])]
      exact ⟨F, rfl, ⟨a, n, cap, L, hL⟩, Keep.refl _, fun _ h => .inl h⟩

def cutR (keep : Int) (x : RB) : ByteArray × FileV := (x.1, cutK keep x.2.f)

theorem ref_Crash {keep : Int} (hkp : I64 keep) (h : RefAt w p F D) (hf : D.Fit) : Calls Try.prog F_ref19_Disk_Crash #[.pointer (some ⟨p, 0, none⟩), .int .i64 keep] w (Ok fun v w' => ∃ F', v = .tuple #[] ∧ RefAt w' p F' (D.crash keep) ∧ Evo F w F' w') := by
  obtain ⟨a, n, cap, L, h⟩ := h
  have hn := h.n_eq; have hl := h.length hf; have hm := hf.many
  have hdom := h.dom
  refine L_ref19_Disk_Crash ⟨fun m oa on oc i w' => ∃ (j : Nat) (O : List RB) (G : Nat → Prop), i = (j : Int) ∧ j ≤ n ∧ m = n - j ∧ Lst cBox 73 G w' oa on oc O ∧ O.map rF = ((L.take j).filter fun y => y.2.f.good).map (cutR keep) ∧ O.length ≤ j ∧ Grew w w' ∧ (∀ b, G b → w.heap.size ≤ b) ∧
      (∀ y ∈ O, Lst cU8 5 y.2.F w' y.2.a y.2.n y.2.c y.2.f.bytes) ∧ (∀ y ∈ O, ∀ u ∈ O, y.1 ≠ u.1 → ∀ b, y.2.F b → ¬ u.2.F b) ∧ ∀ y ∈ O, ∀ b, y.2.F b → w.heap.size ≤ b ∧ ¬ G b,
    ⟨_, 0, [], fun _ => False, rfl, Nat.zero_le _, rfl, by simpa using Lst.nil w, by simp, by simp, Keep.refl _, fun _ h => h.elim, by simp, by simp, by simp⟩, ?_⟩
  rintro m oa on oc i _ w1 ⟨j, O, G, rfl, hj, rfl, ho, hO, hOl, hk, hG, hOe, hOa, hOF⟩
  have h1 := h.grew hk
  refine ⟨p, 0, rfl, a, n, cap, cell_at h1.head rfl, PIf.dec (fun hlt => ?_) (fun hge => ?_)⟩
  · obtain ⟨b, off, x, rfl, hx, hxm, c0, c1, c2, c3⟩ := h1.at hf (i := j) (by omega)
    obtain ⟨hl1, hl2, hl3⟩ := h1.len hf hxm
    have hcapx := (h1.each _ hxm).cap_le
    have hin := h.inF _ hxm
    have hst : (L.take (j + 1)).filter (fun y => y.2.f.good) = (L.take j).filter (fun y => y.2.f.good) ++ [x].filter (fun y => y.2.f.good) := by
      rw [List.take_add_one, hx]; simp [List.filter_append]
    refine ⟨p, 0, rfl, _, n, cap, cell_at h1.head rfl, b, off, rfl, by omega, by omega, x.1, _, _, _, _, _, c0, c1, c2, c3, file_var fun w6 hk16 hs6 g6 => ?_⟩
    refine ⟨x.2.f.good, cell_at g6 rfl, PIf.mk (fun hgd => ?_) (fun hgd => ⟨_, by omega, j + 1, O, G, wrap_succ (by omega), by omega, rfl, ho.grew hk16, ?_, by omega, hk.grew hk16, hG, fun y hy => (hOe y hy).grew hk16, hOa, hOF⟩)⟩
    · have earg : (if (if (IntKind.wrap .i64 (((x.2.n : Nat) : Int) - (x.2.f.synced : Int))) < keep then (IntKind.wrap .i64 (((x.2.n : Nat) : Int) - (x.2.f.synced : Int))) else keep) > 0 then (if (IntKind.wrap .i64 (((x.2.n : Nat) : Int) - (x.2.f.synced : Int))) < keep then (IntKind.wrap .i64 (((x.2.n : Nat) : Int) - (x.2.f.synced : Int))) else keep) else 0) = max 0 (min keep ((x.2.f.bytes.length : Int) - x.2.f.synced)) := by
        rw [wrap_i64 (by unfold I64; omega), hl1]; omega
      have hkt : ((clampN (keepTo keep x.2.f) x.2.f.bytes.length : Nat) : Int) = x.2.f.synced + max 0 (min keep ((x.2.f.bytes.length : Int) - x.2.f.synced)) := by
        unfold clampN keepTo; omega
      have hcl := clampN_le (keepTo keep x.2.f) x.2.f.bytes.length
      refine ⟨_, _, _, cell_at g6 rfl, _, cell_at g6 rfl, _, _, _, cell_at g6 rfl, _, cell_at g6 rfl, ?_⟩
      rw [earg, wrap_i64 (by unfold I64 at *; omega), ← hkt, Int.toNat_natCast]
      refine ⟨by omega, by omega, PC.ok (kit_CopyBytes (((h1.bytes hf hxm).grew hk16).take (m := clampN (keepTo keep x.2.f) x.2.f.bytes.length) (by omega))) ?_⟩
      rintro _ w7 ⟨a7, n7, c7, F7, rfl, ho7, k7, hF7⟩
      have hn7 : n7 = clampN (keepTo keep x.2.f) x.2.f.bytes.length := by
        have := ho7.len (by decide)
        rw [this]; simp; omega
      refine ⟨_, _, _, rfl, PS.mk (k7.get g6 id) (by simp) fun w8 k8 s8 g8 => ⟨a7, n7, c7, cell_at g8 rfl, PS.mk g8 (by simp) fun w9 k9 s9 g9 => ⟨x.1, a7, n7, c7, _, _, cell_at g9 rfl, cell_at g9 rfl, cell_at g9 rfl, cell_at g9 rfl, ?_⟩⟩⟩
      have hk79 : Keep (· = w1.heap.size) w7 w9 := k8.then k9
      have s16 : w1.heap.size < w6.heap.size := by omega
      have hk19 : Grew w1 w9 := (hk16.grew k7).new hk79 fun b hb => .inr (by omega)
      have ho9 := ho.grew hk19
      have hx9 : Lst cU8 5 F7 w9 a7 n7 c7 (cutK keep x.2.f).bytes := ho7.keep hk79 fun b hb e => by have := hF7 b hb; omega
      have hgd' : x.2.f.good = true := hgd
      have hob := ho.dom
      refine papp ho9 slFile (x := (x.1, (⟨a7, n7, c7, F7, cutK keep x.2.f⟩ : RBox))) (D := fun _ => False) ⟨by rw [hgd']; subst hn7; rfl, trivial⟩ (fun _ h => h.elim) (by unfold Big; omega) (by unfold maxLen; omega) fun a' c' w10 F' ho10 hk10 hF10 _ => ?_
      have hk110 : Grew w w10 := (hk.grew hk19).new hk10 fun b hb => .inr (hG b (ho.self b hb))
      have hk10' : Keep (fun b => G b) w9 w10 := hk10.mono fun b _ hb => ho.self b hb
      have hws := hk.size
      refine ⟨_, _, _, rfl, n - (j + 1), by omega, j + 1, O ++ [(x.1, (⟨a7, n7, c7, F7, cutK keep x.2.f⟩ : RBox))], F', wrap_succ (by omega), by omega, rfl, ho10, ?_, by simp; omega, hk110, fun b hb => ?_, fun y hy => ?_, fun y hy u hu hne b hb hbu => ?_, fun y hy b hb => ?_⟩
      · rw [List.map_append, hO, hst, List.map_append]
        simp [hgd', rF, cutR]
      · rcases hF10 b hb with h | h | h
        · exact hG b h
        · exact h.elim
        · have := hk19.size; omega
      · rcases List.mem_append.1 hy with hy | hy
        · exact ((hOe y hy).grew hk19).keep hk10' fun b hb hg => (hOF y hy b hb).2 hg
        · simp only [List.mem_singleton] at hy; subst hy
          exact hx9.keep hk10' fun b hb hg => by have := hob b hg; have := hF7 b hb; omega
      · rcases List.mem_append.1 hy with hy | hy <;> rcases List.mem_append.1 hu with hu | hu
        · exact hOa y hy u hu hne b hb hbu
        · simp only [List.mem_singleton] at hu; subst hu
          have := (hOe y hy).dom b hb; have : w6.heap.size ≤ b := hF7 b hbu; omega
        · simp only [List.mem_singleton] at hy; subst hy
          have := (hOe u hu).dom b hbu; have : w6.heap.size ≤ b := hF7 b hb; omega
        · simp only [List.mem_singleton] at hy hu; subst hy; subst hu
          exact hne rfl
      · have hlt9 : b < w9.heap.size ∧ w.heap.size ≤ b ∧ ¬ G b := by
          rcases List.mem_append.1 hy with hy | hy
          · have := (hOe y hy).dom b hb
            have := hk19.size
            exact ⟨by omega, hOF y hy b hb⟩
          · simp only [List.mem_singleton] at hy; subst hy
            have h1 : w6.heap.size ≤ b := hF7 b hb
            exact ⟨hx9.dom b hb, by omega, fun hg => by have := hob b hg; omega⟩
        refine ⟨hlt9.2.1, fun hg => ?_⟩
        rcases hF10 b hg with h | h | h
        · exact hlt9.2.2 h
        · exact h
        · omega
    · rw [hO, hst]
      simp [hgd]
  · obtain rfl : j = n := by omega
    rw [List.take_of_length_le (by omega)] at hO
    have hkeys : O.map (·.1) = (L.filter fun y => y.2.f.good).map (·.1) := by
      have := congrArg (List.map Prod.fst) hO
      rw [List.map_map, List.map_map] at this
      exact this
    refine ⟨p, 0, rfl, h.swap hk (fs := (D.files.filter fun x => x.2.good).map (fun x => (x.1, cutK keep x.2))) ho (fun b hb => hG b (ho.self b hb)) hOe hOa (fun y hy b hb => ⟨.inr (hOF y hy b hb).1, fun e => (hOF y hy b hb).2 (ho.self b e)⟩) ?_ (fun q => ?_) fun w2 hR2 k02 k12 s2 => ?_⟩
    · have hs : ((L.filter fun y => y.2.f.good).map (·.1)).Pairwise ltK := List.pairwise_map.2 (h.sorted.filter _)
      rw [← hkeys] at hs
      exact List.pairwise_map.1 hs
    · rw [hO]
      constructor
      · intro hq
        obtain ⟨y, hy, rfl⟩ := List.mem_map.1 hq
        obtain ⟨hy1, hy2⟩ := List.mem_filter.1 hy
        exact List.mem_map.2 ⟨(y.1, y.2.f), List.mem_filter.2 ⟨h.file hy1, hy2⟩, rfl⟩
      · intro hq
        obtain ⟨d, hd, rfl⟩ := List.mem_map.1 hq
        obtain ⟨hd1, hd2⟩ := List.mem_filter.1 hd
        obtain ⟨y, hy, rfl⟩ := List.mem_map.1 ((h.same d).2 hd1)
        exact List.mem_map.2 ⟨y, List.mem_filter.2 ⟨hy, hd2⟩, rfl⟩
    · refine ⟨p, 0, rfl, PS.mk hR2.head (by simp) fun w3 k3 s3 g3 => ⟨p, 0, rfl, PS.mk g3 (by simp) fun w4 k4 s4 g4 => Ok.mk ?_⟩⟩
      have hR4 := hR2.remake (D' := D.crash keep) (k3.then k4) (by rw [g4]; rfl) rfl
      exact ⟨_, rfl, ⟨_, _, _, _, hR4⟩, ((k02.then k3).then k4).mono fun b _ hb => hb ▸ h.self, fun b hb => hb.imp id (·.1)⟩
end
end Go.Proofs.Yticehdfebghloaa
