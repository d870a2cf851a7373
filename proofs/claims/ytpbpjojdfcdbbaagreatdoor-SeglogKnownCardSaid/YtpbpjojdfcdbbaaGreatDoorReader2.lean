/- pack: readings that halt, and what is left then; Int, Count, Done -/
import Derived.Test.YtpbpjojdfcdbbaaGreatDoorReader
namespace Go.Proofs.YtpbpjojdfcdbbaaGreatDoor
open Go.Lift
set_option linter.unusedVariables false
set_option maxRecDepth 20000

theorem rd_count {w : World} {p : Nat} {F : Nat → Prop} {r : RdV} {m : Int} (h : RdAt w p F r) :
    Calls Tryz.prog F_pack_Reader_count #[.pointer (some ⟨p, 0, none⟩), .int .i64 m] w (Red w p F r (if r.num.1 = 0 then (if r.num.2.1 < 0 ∨ m < r.num.2.1 then 3 else 0) else r.num.1) (fun v w' => v = .int .i64 r.num.2.1) r.num.2.2) := by
  refine L_pack_Reader_count (PC.red (rd_number h) ?_ ?_)
  rotate_left
  · intro h0 w1 hr k1 s1
    rw [if_neg h0]
    exact ⟨.inr ⟨h0, rfl, hr⟩, k1, s1⟩
  rintro h0 _ w1 hr rfl k1 s1
  rw [if_pos h0]
  have bad : r.num.2.1 < 0 ∨ m < r.num.2.1 → Red w p F r (if r.num.2.1 < 0 ∨ m < r.num.2.1 then 3 else 0) (fun v w' => v = .int .i64 r.num.2.1) r.num.2.2 (.panicked (Pan 3)) w1 := fun hb => by
    rw [if_pos hb]
    exact ⟨.inr ⟨by decide, rfl, _, hr⟩, k1, s1⟩
  refine ⟨_, rfl, PIf.dec (fun h1 => pack_must (fun hb => ⟨rfl, ?_⟩) (fun hb => bad (.inr ?_))) (fun h1 => pack_must (fun hb => by cases hb) (fun _ => bad (.inl (by omega))))⟩
  · have hb := of_decide_eq_true hb
    rw [if_neg (by omega)]
    exact ⟨.inl ⟨rfl, hr, _, rfl, rfl⟩, k1, s1⟩
  · have hb := of_decide_eq_false hb
    omega

theorem eql_nil_nil {x : Operand} {w : World} : (do eqGuard .eql 20 x (.const .nilIface) .nilIface .nilIface; binOp .eql 20 .nilIface .nilIface : Sem Value).run Tryz.prog w = .ok (.bool true) w := by
  cases x <;> rfl
theorem eql_halt_nil {x y : Operand} {w : World} {n : Int} : (do eqGuard .eql 20 x y (.iface 165 (.int .i64 n)) .nilIface; binOp .eql 20 (.iface 165 (.int .i64 n)) .nilIface : Sem Value).run Tryz.prog w = .ok (.bool false) w := by
  rfl
theorem assert_halt {w : World} {n : Int} : (Instr.typeAssert (.iface 165 (.int .i64 n)) 20 165 true).run Tryz.prog w = .ok (.tuple #[.int .i64 n, .bool true]) w := by
  rfl
theorem Lv.ret {P : Program} {ret : World → Prop} {pan : List PanicEntry → World → Prop} {u : FrameMode} {w : World} (hu : u = .returning) (h : ret w) : Lv P ret pan [] u w := by
  subst hu; unfold Lv; exact h
theorem Lv.one {P : Program} {ret : World → Prop} {pan : List PanicEntry → World → Prop} {g : FuncId} {cap : Array Value} {u : FrameMode} {w : World} (hu : u ≠ .run) (hen : enters P g = true)
    (h : CallsD P g cap u w fun e u' w' => onEnd e (fun _ => Lv P ret pan [] (settle u') w') (fun ch => Lv P ret pan [] (raised u' ch) w')) : Lv P ret pan [{ target := .fn (.func g) cap, args := #[] }] u w :=
  ⟨hu, g, cap, rfl, hen, by rw [show (#[] ++ cap : Array Value) = cap by simp]; exact h⟩

/-- a reading is done, if none failed ahead of it; where it halts nothing was read. A: what is so where it came to its end -/
theorem rd_reading {w : World} {p : Nat} {F S : Nat → Prop} {r : RdV} (h : RdAt w p F r) {g : FuncId} {fi ca : Array Value} (hen : enters Tryz.prog g = true) {A : World → Prop} {no : Int} (hS : ∀ b, S b → b < w.heap.size)
    (hdo : r.why = 0 → ∀ w1, Grew w w1 → Calls Tryz.prog g (fi ++ #[] ++ ca) w1 fun e w' => Keep S w1 w' ∧ ((no = 0 ∧ e = .returned (.tuple #[]) ∧ A w') ∨ (no ≠ 0 ∧ (no = 3 ∨ no = 4 ∨ no = 5) ∧ e = .panicked (Pan no) ∧ Keep (· = p) w1 w' ∧ ∃ q, RdAt w' p F ⟨r.bytes, q, 0⟩))) :
    Calls Tryz.prog F_pack_Reader_reading #[.pointer (some ⟨p, 0, none⟩), .func (.func g) fi ca] w (Ok fun v w' => v = .tuple #[] ∧ Keep (fun b => S b ∨ b = p) w w' ∧
      ((r.why ≠ 0 ∧ Grew w w') ∨ (r.why = 0 ∧ no = 0 ∧ Keep S w w' ∧ A w') ∨ (r.why = 0 ∧ no ≠ 0 ∧ Keep (· = p) w w' ∧ RdAt w' p F ⟨r.bytes, r.pos, no⟩))) := by
  obtain ⟨a, n, cap, G, h1, h2, h3⟩ := h.body
  have hp := lt_of_get h1
  refine L_pack_Reader_reading (PA.mk fun w1 k1 s1 g1 => ?_)
  have gp1 := k1.get h1 id
  refine ⟨_, cell_at g1 rfl, p, 0, rfl, _, cell_at gp1 rfl, PIf.neI (fun hne => Ok.mk ⟨rfl, k1.keep, .inl ⟨hne, k1⟩⟩) (fun h0 => ?_)⟩
  refine ⟨_, cell_at g1 rfl, p, 0, rfl, _, cell_at gp1 rfl, PA.mk fun w2 k2 s2 g2 => PS.mk g2 (by simp) fun w3 k3 s3 g3 => ⟨g, fi, ca, rfl, hen, ?_⟩⟩
  have k13 : Keep (· = w1.heap.size) w1 w3 := k2.keep.then k3
  have k03 : Grew w w3 := k1.new k13 fun b hb => .inr (by omega)
  refine (hdo h0 w3 k03).mono ?_
  rintro e w4 ⟨k4, hcase⟩
  have gr : w4.heap[w.heap.size]? = some (.cells #[.pointer (some ⟨p, 0, none⟩)] 102 (0, 0)) := k4.get (k13.get g1 (by intro e; omega)) (fun hs => by have := hS _ hs; omega)
  have gf : w4.heap[w1.heap.size]? = some (.cells #[.int .i64 (r.pos : Int)] 3 (0, 0)) := k4.get g3 (fun hs => by have := hS _ hs; omega)
  have k04 : Keep S w w4 := k03.keep.then k4
  rcases hcase with ⟨hno, rfl, hA⟩ | ⟨hno, h345, rfl, kp4, q, hr⟩
  · refine ⟨rfl, Lv.one (by simp) (by kernel_rfl) ?_⟩
    refine CallsD.mono (LR_pack_Reader_reading_1 (rv := .nilIface) (u := .returning) rfl (R := fun e u' w' => e = .returned (.tuple #[]) ∧ u' = .returning ∧ w' = w4) ?_) ?_
    · exact PRun.mk eql_nil_nil ⟨_, rfl, PIf.tt rfl ⟨rfl, rfl, rfl⟩⟩
    · rintro e u' w' ⟨rfl, rfl, rfl⟩
      refine Lv.ret rfl ?_
      exact Ok.mk ⟨rfl, k04.mono fun _ _ h => .inl h, .inr (.inl ⟨h0, hno, k04, hA⟩)⟩
  · refine Lv.one (by simp) (by kernel_rfl) ?_
    obtain ⟨a', n', cap', G', e1, e2, e3⟩ := hr.body
    refine CallsD.mono (LR_pack_Reader_reading_1 (rv := .iface 165 (.int .i64 no)) (u := .panicking (Pan no)) rfl (R := fun e u' w' => e = .returned (.tuple #[]) ∧ settle u' = .returning ∧ RdAt w' p F ⟨r.bytes, r.pos, no⟩ ∧ Keep (· = p) w w') ?_) ?_
    · refine PRun.mk (v := .bool false) (w' := w4) ?_ ⟨_, rfl, PIf.ff rfl (PRun.mk (v := .tuple #[.int .i64 no, .bool true]) (w' := w4) ?_ ⟨_, _, rfl, PIf.tt rfl ?_⟩)⟩
      · exact eql_halt_nil
      · exact assert_halt
      · refine ⟨_, cell_at gr rfl, _, cell_at gr rfl, _, cell_at gf rfl, p, 0, rfl, PS.mk e1 (by simp) fun w5 k5 s5 g5 => ⟨p, 0, rfl, PS.mk g5 (by simp) fun w6 k6 s6 g6 => ⟨rfl, rfl, ?_, ?_⟩⟩⟩
        · exact hr.turn (r' := ⟨r.bytes, r.pos, no⟩) e2 e3 (k5.then k6) g6 rfl ⟨h.fit.pos, .inr h345⟩
        · exact (k03.keep.then kp4).then (k5.then k6)
    · rintro e u' w' ⟨rfl, hset, hrd, hkk⟩
      refine Lv.ret hset ?_
      exact Ok.mk ⟨rfl, hkk.mono fun _ _ h => .inr h, .inr (.inr ⟨h0, hno, hkk, hrd⟩)⟩

theorem rd_Int {w : World} {p : Nat} {F : Nat → Prop} {r : RdV} (h : RdAt w p F r) :
    Calls Tryz.prog F_pack_Reader_Int #[.pointer (some ⟨p, 0, none⟩)] w (Ok fun v w' => v = .int .i64 (rdInt r).1 ∧ RdAt w' p F (rdInt r).2 ∧ Keep (· = p) w w') := by
  have hp : p < w.heap.size := h.dom p h.self
  refine L_pack_Reader_Int (PA.mk fun w1 k1 s1 g1 => PA.mk fun w2 k2 s2 g2 => ⟨_, cell_at (k2.get g1 id) rfl, ?_⟩)
  have k02 : Grew w w2 := k1.then k2
  have h2 := h.grew k02
  have gp2 := k2.get g1 id
  refine PC.ok (rd_reading (S := fun b => b = p ∨ b = w1.heap.size) (no := r.num.1) (A := fun w' => RdAt w' p F ⟨r.bytes, r.pos + r.num.2.2, r.why⟩ ∧ w'.heap[w1.heap.size]? = some (.cells #[.int .i64 r.num.2.1] 3 (0, 0))) h2 (by kernel_rfl) ?_ ?_) ?_
  · rintro b (rfl | rfl) <;> omega
  · intro h0 w3 k3
    refine L_pack_Reader_Int_1 ⟨_, cell_at (k3.get gp2 id) rfl, PC.red (rd_number (h2.grew k3)) ?_ ?_⟩
    · rintro hz _ w4 hr rfl k4 s4
      have g4 := k4.get (k3.get g2 id) (by omega)
      refine ⟨_, rfl, PS.mk g4 (by simp) fun w5 k5 s5 g5 => ⟨(k4.mono fun _ _ h => .inl h).then (k5.mono fun _ _ h => .inr h), .inl ⟨hz, rfl, hr.keep k5 fun b hb e => ?_, g5⟩⟩⟩
      have := h.dom b hb; omega
    · rintro hz w4 hr k4 s4
      rw [h0] at hr
      have := rdNum_range (r.bytes.drop r.pos)
      exact ⟨k4.mono fun _ _ h => .inl h, .inr ⟨hz, by have := this.2.2.2.1; unfold RdV.num at hz ⊢; omega, rfl, k4, hr⟩⟩
  · rintro _ w3 ⟨rfl, k3, hcase⟩
    have hk03 : Keep (· = p) w w3 := k02.keep.new k3 fun b hb => by
      rcases hb with (rfl | rfl) | rfl
      · exact .inl rfl
      · exact .inr (by omega)
      · exact .inl rfl
    have done : ∀ x : Int, w3.heap[w1.heap.size]? = some (.cells #[.int .i64 x] 3 (0, 0)) → RdAt w3 p F (rdInt r).2 → x = (rdInt r).1 →
        (∃ t7 : Int, w3.cell? ⟨w1.heap.size, 0, none⟩ = some (.int .i64 t7) ∧ PS w3 ⟨w1.heap.size, 0, none⟩ (.int .i64 t7) fun w8 => ∃ r9 : Int, w8.cell? ⟨w1.heap.size, 0, none⟩ = some (.int .i64 r9) ∧
          Ok (fun v w' => v = .int .i64 (rdInt r).1 ∧ RdAt w' p F (rdInt r).2 ∧ Keep (· = p) w w') (.returned (.int .i64 r9)) w8) := by
      rintro x hg hr rfl
      refine ⟨_, cell_at hg rfl, PS.mk hg (by simp) fun w4 k4 s4 g4 => ⟨_, cell_at g4 rfl, Ok.mk ⟨rfl, hr.keep k4 fun b hb e => ?_, hk03.new k4 fun b hb => .inr (by omega)⟩⟩⟩
      have := h.dom b hb; omega
    refine ⟨rfl, ?_⟩
    rcases hcase with ⟨hw, hg⟩ | ⟨hw, hz, _, hr, hg⟩ | ⟨hw, hz, hkp, hr⟩
    · have e : rdInt r = (0, r) := by unfold rdInt; rw [if_pos hw]
      exact done 0 (hg.get g2 id) (by rw [e]; exact h2.grew hg) (by rw [e])
    · have e : rdInt r = (r.num.2.1, ⟨r.bytes, r.pos + r.num.2.2, 0⟩) := by unfold rdInt; rw [if_neg (by simp [hw]), if_pos hz]
      exact done _ hg (by rw [e]; rw [hw] at hr; exact hr) (by rw [e])
    · have e : rdInt r = (0, ⟨r.bytes, r.pos, r.num.1⟩) := by unfold rdInt; rw [if_neg (by simp [hw]), if_neg hz]
      exact done 0 (hkp.get g2 (by omega)) (by rw [e]; exact hr) (by rw [e])

theorem rd_Count {w : World} {p : Nat} {F : Nat → Prop} {r : RdV} {m : Int} (h : RdAt w p F r) :
    Calls Tryz.prog F_pack_Reader_Count #[.pointer (some ⟨p, 0, none⟩), .int .i64 m] w (Ok fun v w' => v = .int .i64 (rdCount m r).1 ∧ RdAt w' p F (rdCount m r).2 ∧ Keep (· = p) w w') := by
  have hp : p < w.heap.size := h.dom p h.self
  refine L_pack_Reader_Count (PA.mk fun w1 k1 s1 g1 => PA.mk fun wm km sm gm => PA.mk fun w2 k2 s2 g2 => ⟨_, cell_at (k2.get (km.get g1 id) id) rfl, ?_⟩)
  have k02 : Grew w w2 := (k1.then km).then k2
  have h2 := h.grew k02
  have gp2 := k2.get (km.get g1 id) id
  have gm2 := k2.get gm id
  generalize hno : (if r.num.1 = 0 then (if r.num.2.1 < 0 ∨ m < r.num.2.1 then 3 else 0) else r.num.1 : Int) = no
  refine PC.ok (rd_reading (S := fun b => b = p ∨ b = wm.heap.size) (no := no) (A := fun w' => RdAt w' p F ⟨r.bytes, r.pos + r.num.2.2, r.why⟩ ∧ w'.heap[wm.heap.size]? = some (.cells #[.int .i64 r.num.2.1] 3 (0, 0))) h2 (by kernel_rfl) ?_ ?_) ?_
  · rintro b (rfl | rfl) <;> omega
  · intro h0 w3 k3
    refine L_pack_Reader_Count_1 ⟨_, cell_at (k3.get gp2 id) rfl, _, cell_at (k3.get gm2 id) rfl, PC.red (rd_count (h2.grew k3)) ?_ ?_⟩
    · rintro hz _ w4 hr rfl k4 s4
      rw [hno] at hz
      have g4 := k4.get (k3.get g2 id) (by omega)
      refine ⟨_, rfl, PS.mk g4 (by simp) fun w5 k5 s5 g5 => ⟨(k4.mono fun _ _ h => .inl h).then (k5.mono fun _ _ h => .inr h), .inl ⟨hz, rfl, hr.keep k5 fun b hb e => ?_, g5⟩⟩⟩
      have := h.dom b hb; omega
    · rintro hz w4 hr k4 s4
      rw [hno] at hz ⊢
      rw [h0] at hr
      have h45 := (rdNum_range (r.bytes.drop r.pos)).2.2.2.1
      refine ⟨k4.mono fun _ _ h => .inl h, .inr ⟨hz, ?_, rfl, k4, hr⟩⟩
      change r.num.1 = 0 ∨ r.num.1 = 4 ∨ r.num.1 = 5 at h45
      rw [← hno] at hz ⊢
      split
      · rename_i e
        rw [if_pos e] at hz
        split
        · exact .inl rfl
        · rename_i e2; rw [if_neg e2] at hz; exact absurd rfl hz
      · omega
  · rintro _ w3 ⟨rfl, k3, hcase⟩
    have hk03 : Keep (· = p) w w3 := k02.keep.new k3 fun b hb => by
      rcases hb with (rfl | rfl) | rfl
      · exact .inl rfl
      · exact .inr (by omega)
      · exact .inl rfl
    have done : ∀ x : Int, w3.heap[wm.heap.size]? = some (.cells #[.int .i64 x] 3 (0, 0)) → RdAt w3 p F (rdCount m r).2 → x = (rdCount m r).1 →
        (∃ t7 : Int, w3.cell? ⟨wm.heap.size, 0, none⟩ = some (.int .i64 t7) ∧ PS w3 ⟨wm.heap.size, 0, none⟩ (.int .i64 t7) fun w8 => ∃ r9 : Int, w8.cell? ⟨wm.heap.size, 0, none⟩ = some (.int .i64 r9) ∧
          Ok (fun v w' => v = .int .i64 (rdCount m r).1 ∧ RdAt w' p F (rdCount m r).2 ∧ Keep (· = p) w w') (.returned (.int .i64 r9)) w8) := by
      rintro x hg hr rfl
      refine ⟨_, cell_at hg rfl, PS.mk hg (by simp) fun w4 k4 s4 g4 => ⟨_, cell_at g4 rfl, Ok.mk ⟨rfl, hr.keep k4 fun b hb e => ?_, hk03.new k4 fun b hb => .inr (by omega)⟩⟩⟩
      have := h.dom b hb; omega
    refine ⟨rfl, ?_⟩
    rcases hcase with ⟨hw, hg⟩ | ⟨hw, hz, _, hr, hg⟩ | ⟨hw, hz, hkp, hr⟩
    · have e : rdCount m r = (0, r) := by unfold rdCount; rw [if_pos hw]
      exact done 0 (hg.get g2 id) (by rw [e]; exact h2.grew hg) (by rw [e])
    · have e : rdCount m r = (r.num.2.1, ⟨r.bytes, r.pos + r.num.2.2, 0⟩) := by
        have h45 := (rdNum_range (r.bytes.drop r.pos)).2.2.2.1
        change r.num.1 = 0 ∨ r.num.1 = 4 ∨ r.num.1 = 5 at h45
        unfold rdCount
        rw [if_neg (by simp [hw])]
        split at hno
        · rename_i e1
          rw [if_pos e1]
          split at hno
          · omega
          · rename_i e2; rw [if_neg e2]
        · omega
      exact done _ hg (by rw [e]; rw [hw] at hr; exact hr) (by rw [e])
    · have e : rdCount m r = (0, ⟨r.bytes, r.pos, no⟩) := by
        unfold rdCount
        rw [if_neg (by simp [hw])]
        split at hno
        · rename_i e1
          rw [if_pos e1]
          split at hno
          · rename_i e2; rw [if_pos e2, hno]
          · omega
        · rename_i e1; rw [if_neg e1, hno]
      exact done 0 (hkp.get g2 (by omega)) (by rw [e]; exact hr) (by rw [e])

theorem rd_Done {w : World} {p : Nat} {F : Nat → Prop} {r : RdV} (h : RdAt w p F r) :
    Calls Tryz.prog F_pack_Reader_Done #[.pointer (some ⟨p, 0, none⟩)] w (Ok fun v w' => v = .int .i64 (rdDone r) ∧ Drew w w') := by
  obtain ⟨a, n, cap, G, h1, h2, h3⟩ := h.body
  have hn := h2.len (by decide)
  have hfin : r.why ≠ 0 ∨ ¬ r.pos < r.bytes.length → rdDone r = r.why := fun hc => by unfold rdDone; rw [if_neg (by omega)]
  refine L_pack_Reader_Done ⟨p, 0, rfl, _, cell_at h1 rfl, PIf.eqI (fun h0 => ⟨p, 0, rfl, _, cell_at h1 rfl, p, 0, rfl, _, _, _, cell_at h1 rfl, fun w2 hd => PIf.dec (fun hlt => ?_) fun hlt => ?_⟩) (fun h0 w2 hd => ?_)⟩
  · exact Ok.mk ⟨by unfold rdDone; rw [if_pos ⟨h0, by omega⟩], hd⟩
  · exact ⟨p, 0, rfl, _, cell_at ((hd.keep (S := fun _ => False)).get h1 id) rfl, Ok.mk ⟨by rw [hfin (.inr (by omega))], hd⟩⟩
  · exact ⟨p, 0, rfl, _, cell_at ((hd.keep (S := fun _ => False)).get h1 id) rfl, Ok.mk ⟨by rw [hfin (.inl h0)], hd⟩⟩
end Go.Proofs.YtpbpjojdfcdbbaaGreatDoor
