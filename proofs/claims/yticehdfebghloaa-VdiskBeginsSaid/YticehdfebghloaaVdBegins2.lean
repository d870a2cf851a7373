/- VdiskBegins: its walk -/
import Derived.Test.YticehdfebghloaaVdBegins
namespace Go.Proofs.Yticehdfebghloaa
open Go.Lift
set_option linter.unusedVariables false
set_option maxRecDepth 20000

theorem noteL_chain (kd no : Int) (k size la lb : Nat) (l l1 l2 l3 : Nat → Nat) (h1 : l1 = if (kd = 0 ∨ kd = 5) ∧ no = 0 then upd l k 0 else l) (h2 : l2 = if (kd = 3 ∨ kd = 6) ∧ no = 0 then upd l1 k size else l1)
    (h3 : l3 = if kd = 4 ∧ no = 0 then upd (upd l2 (1 - k) (l2 k)) k 0 else l2) : noteL kd no k size la lb l = if kd = 7 then (fun i => if i = 0 then la else lb) else l3 := by
  unfold noteL
  by_cases c1 : (kd = 0 ∨ kd = 5) ∧ no = 0
  · rw [if_pos c1] at h1 ⊢
    rw [if_neg (by omega)] at h2 h3 ⊢
    rw [h3, h2, h1]
  · rw [if_neg c1] at h1 ⊢
    by_cases c2 : (kd = 3 ∨ kd = 6) ∧ no = 0
    · rw [if_pos c2] at h2 ⊢
      rw [if_neg (by omega)] at h3 ⊢
      rw [h3, h2, h1]
    · rw [if_neg c2] at h2 ⊢
      by_cases c3 : kd = 4 ∧ no = 0
      · rw [if_pos c3] at h3 ⊢
        rw [if_neg (by omega), h3, h2, h1]
      · rw [if_neg c3] at h3 ⊢
        rw [h3, h2, h1]
theorem noteG_chain (kd no : Int) (k : Nat) (g g1 g2 g3 : Nat → Bool) (h1 : g1 = if (kd = 0 ∨ kd = 5) ∧ no = 0 then upd g k false else g) (h2 : g2 = if (kd = 3 ∨ kd = 6) ∧ no = 0 then upd g1 k true else g1)
    (h3 : g3 = if kd = 4 ∧ no = 0 then upd (upd g2 (1 - k) true) k false else g2) : noteG kd no k g = g3 := by
  unfold noteG
  by_cases c1 : (kd = 0 ∨ kd = 5) ∧ no = 0
  · rw [if_pos c1] at h1 ⊢
    rw [if_neg (by omega)] at h2 h3
    rw [h3, h2, h1]
  · rw [if_neg c1] at h1 ⊢
    by_cases c2 : (kd = 3 ∨ kd = 6) ∧ no = 0
    · rw [if_pos c2] at h2 ⊢
      rw [if_neg (by omega)] at h3
      rw [h3, h2]
      rw [h1]
    · rw [if_neg c2] at h2 ⊢
      by_cases c3 : kd = 4 ∧ no = 0
      · rw [if_pos c3] at h3 ⊢
        rw [h3, h2, h1]
      · rw [if_neg c3] at h3 ⊢
        rw [h3, h2, h1]

/-- the disk, and what is noted beside it -/
structure BSt (w0 w : World) (p P1 P2 P3 : Nat) (D : DiskV) (l : Nat → Nat) (g : Nat → Bool) (X : Nat → Prop) : Prop where
  disk : NDisk w0 w p D X
  names : w.heap[P1]? = some (.cells #[.string (nB 0), .string (nB 1)] 9 (0, 0))
  least : w.heap[P2]? = some (.cells #[.int .i64 (l 0), .int .i64 (l 1)] 3 (0, 0))
  good : w.heap[P3]? = some (.cells #[.bool (g 0), .bool (g 1)] 4 (0, 0))
  x1 : X P1
  x2 : X P2
  x3 : X P3
  ge : w0.heap.size ≤ P1 ∧ w0.heap.size ≤ P2 ∧ w0.heap.size ≤ P3
  ne : P1 ≠ P2 ∧ P1 ≠ P3 ∧ P2 ≠ P3

section
variable {w0 w w' : World} {p P1 P2 P3 : Nat} {D D' : DiskV} {l : Nat → Nat} {g : Nat → Bool} {X Y : Nat → Prop}
theorem BSt.grew (h : BSt w0 w p P1 P2 P3 D l g X) (hk : Grew w w') : BSt w0 w' p P1 P2 P3 D l g X := ⟨h.disk.grew hk, hk.get h.names id, hk.get h.least id, hk.get h.good id, h.x1, h.x2, h.x3, h.ge, h.ne⟩
theorem BSt.add (h : BSt w0 w p P1 P2 P3 D l g X) (hk : Grew w w') (hY : ∀ b, Y b → w.heap.size ≤ b ∧ b < w'.heap.size) : BSt w0 w' p P1 P2 P3 D l g (fun b => X b ∨ Y b) := ⟨h.disk.add hk hY, hk.get h.names id, hk.get h.least id, hk.get h.good id, .inl h.x1, .inl h.x2, .inl h.x3, h.ge, h.ne⟩
theorem BSt.mono (h : BSt w0 w p P1 P2 P3 D l g X) (hx : ∀ b, Y b → X b) (h1 : Y P1) (h2 : Y P2) (h3 : Y P3) : BSt w0 w p P1 P2 P3 D l g Y := ⟨h.disk.mono hx, h.names, h.least, h.good, h1, h2, h3, h.ge, h.ne⟩
theorem BSt.other (h : BSt w0 w p P1 P2 P3 D l g X) (hk : Keep Y w w') (hY : ∀ b, Y b → X b ∧ w0.heap.size ≤ b ∧ b ≠ P1 ∧ b ≠ P2 ∧ b ≠ P3) : BSt w0 w' p P1 P2 P3 D l g X := by
  refine ⟨?_, hk.get h.names fun hy => (hY _ hy).2.2.1 rfl, hk.get h.least fun hy => (hY _ hy).2.2.2.1 rfl, hk.get h.good fun hy => (hY _ hy).2.2.2.2 rfl, h.x1, h.x2, h.x3, h.ge, h.ne⟩
  obtain ⟨F, h1, h2, h3, h4⟩ := h.disk
  exact ⟨F, h1.keep hk fun b hb hy => (h3 b hb).2 (hY b hy).1, h2.new hk fun b hb => .inr (hY b hb).2.1, h3, fun b hb => Nat.lt_of_lt_of_le (h4 b hb) hk.size⟩
theorem BSt.did (h : BSt w0 w p P1 P2 P3 D l g X) (hd : NDisk w0 w' p D' X) (hk : Keep (Not' X) w w') : BSt w0 w' p P1 P2 P3 D' l g X := ⟨hd, hk.get h.names fun hn => hn h.x1, hk.get h.least fun hn => hn h.x2, hk.get h.good fun hn => hn h.x3, h.x1, h.x2, h.x3, h.ge, h.ne⟩

theorem two (k : Nat) (h : k < 2) : k = 0 ∨ k = 1 := by omega

theorem BSt.setL (h : BSt w0 w p P1 P2 P3 D l g X) {k v : Nat} (hk : k < 2) {κ : World → Prop} (hκ : ∀ w1, BSt w0 w1 p P1 P2 P3 D (upd l k v) g X → Keep (· = P2) w w1 → κ w1) : PS w ⟨P2, 0 + Int.toNat (k : Int), none⟩ (.int .i64 (v : Int)) κ := by
  obtain ⟨n1, n2, n3⟩ := h.ne
  rw [Int.toNat_natCast, Nat.zero_add]
  refine PS.mk h.least (by simp; omega) fun w1 k1 s1 g1 => hκ w1 ⟨?_, k1.get h.names n1, ?_, k1.get h.good (fun e => n3 e.symm), h.x1, h.x2, h.x3, h.ge, h.ne⟩ k1
  · obtain ⟨F, a1, a2, a3, a4⟩ := h.disk
    exact ⟨F, a1.keep k1 fun b hb e => (a3 b hb).2 (e ▸ h.x2), a2.new k1 fun b hb => .inr (hb ▸ h.ge.2.1), a3, fun b hb => Nat.lt_of_lt_of_le (a4 b hb) k1.size⟩
  · rw [g1]; rcases two k hk with rfl | rfl <;> rfl
theorem BSt.setG (h : BSt w0 w p P1 P2 P3 D l g X) {k : Nat} {v : Bool} (hk : k < 2) {κ : World → Prop} (hκ : ∀ w1, BSt w0 w1 p P1 P2 P3 D l (upd g k v) X → Keep (· = P3) w w1 → κ w1) : PS w ⟨P3, 0 + Int.toNat (k : Int), none⟩ (.bool v) κ := by
  obtain ⟨n1, n2, n3⟩ := h.ne
  rw [Int.toNat_natCast, Nat.zero_add]
  refine PS.mk h.good (by simp; omega) fun w1 k1 s1 g1 => hκ w1 ⟨?_, k1.get h.names n2, k1.get h.least n3, ?_, h.x1, h.x2, h.x3, h.ge, h.ne⟩ k1
  · obtain ⟨F, a1, a2, a3, a4⟩ := h.disk
    exact ⟨F, a1.keep k1 fun b hb e => (a3 b hb).2 (e ▸ h.x3), a2.new k1 fun b hb => .inr (hb ▸ h.ge.2.2), a3, fun b hb => Nat.lt_of_lt_of_le (a4 b hb) k1.size⟩
  · rw [g1]; rcases two k hk with rfl | rfl <;> rfl
theorem BSt.name (h : BSt w0 w p P1 P2 P3 D l g X) {k : Nat} (hk : k < 2) : w.cell? ⟨P1, 0 + Int.toNat (k : Int), none⟩ = some (.string (nB k)) := by
  rw [Int.toNat_natCast, Nat.zero_add]
  rcases two k hk with rfl | rfl <;> exact cell_at h.names rfl
theorem BSt.leastAt (h : BSt w0 w p P1 P2 P3 D l g X) {k : Nat} (hk : k < 2) : w.cell? ⟨P2, 0 + Int.toNat (k : Int), none⟩ = some (.int .i64 (l k)) := by
  rw [Int.toNat_natCast, Nat.zero_add]
  rcases two k hk with rfl | rfl <;> exact cell_at h.least rfl
theorem BSt.goodAt (h : BSt w0 w p P1 P2 P3 D l g X) {k : Nat} (hk : k < 2) : w.cell? ⟨P3, 0 + Int.toNat (k : Int), none⟩ = some (.bool (g k)) := by
  rw [Int.toNat_natCast, Nat.zero_add]
  rcases two k hk with rfl | rfl <;> exact cell_at h.good rfl
end

/-- a struct of five cells, laid in a new block -/
theorem fill5 {w : World} {z0 z1 z2 z3 z4 v0 v1 v2 v3 v4 : Value} {t : TypeId} {κ : World → Prop}
    (h : ∀ w6, Grew w w6 → w6.heap.size = w.heap.size + 1 → w6.heap[w.heap.size]? = some (.cells #[v0, v1, v2, v3, v4] t (0, 0)) → κ w6) :
    PA w (.cells #[z0, z1, z2, z3, z4] t) fun w1 => PS w1 ⟨w.heap.size, 0, none⟩ v0 fun w2 => PS w2 ⟨w.heap.size, 0 + 1, none⟩ v1 fun w3 => PS w3 ⟨w.heap.size, 0 + 2, none⟩ v2 fun w4 => PS w4 ⟨w.heap.size, 0 + 3, none⟩ v3 fun w5 => PS w5 ⟨w.heap.size, 0 + 4, none⟩ v4 κ := by
  refine PA.mk fun w1 k1 s1 g1 => PS.mk g1 (by simp) fun w2 k2 s2 g2 => PS.mk g2 (by simp) fun w3 k3 s3 g3 => PS.mk g3 (by simp) fun w4 k4 s4 g4 => PS.mk g4 (by simp) fun w5 k5 s5 g5 => PS.mk g5 (by simp) fun w6 k6 s6 g6 => h w6 ?_ (by omega) g6
  have e : ∀ {a b : World}, Grew w a → Keep (· = w.heap.size) a b → Grew w b := fun g k => g.new k fun b hb => .inr (by omega)
  exact e (e (e (e (e k1 k2) k3) k4) k5) k6

abbrev X3 (P1 P2 P3 : Nat) : Nat → Prop := fun b => b = P1 ∨ b = P2 ∨ b = P3

theorem BSt.cong {w0 w : World} {p P1 P2 P3 : Nat} {D : DiskV} {l l' : Nat → Nat} {g : Nat → Bool} {X : Nat → Prop} (h : BSt w0 w p P1 P2 P3 D l g X) (h0 : l 0 = l' 0) (h1 : l 1 = l' 1) : BSt w0 w p P1 P2 P3 D l' g X :=
  ⟨h.disk, h.names, by rw [← h0, ← h1]; exact h.least, h.good, h.x1, h.x2, h.x3, h.ge, h.ne⟩

theorem VdiskBegins {a : Option Addr} {n c : Nat} {l : List ActV} {keep : Int} {w : World} (hkp : I64 keep) (hl : Row cAct 72 w (In w) a n l) :
    Calls Try.prog F_law19_VdiskBegins #[.slice a n c, .int .i64 keep] w (Ok (tru w)) := by
  have hn := hl.len
  refine L_law19_VdiskBegins (PC.ok (law_Long hl) ?_)
  rintro _ _ ⟨lb, rfl, rfl, hlong⟩
  refine ⟨_, rfl, PIf.mk (fun _ => known' (Keep.refl _)) fun hlb => PC.ok (new_ok (Keep.refl _) (by omega) (by omega)) ?_⟩
  obtain ⟨hl100, hlx⟩ := hlong hlb
  rintro _ w1 ⟨p, rfl, h1, -⟩
  replace h1 : NDisk w w1 p (newD 1000) no := h1.mono fun _ h => h.elim
  have hw1 := h1.gr.size
  refine ⟨_, _, rfl, PIf.ff rfl (eq_nil_ptr uD ⟨_, rfl, PIf.ff rfl (PA.mk fun w2 k2 s2 g2 => PA.mk fun w3 k3 s3 g3 => PA.mk fun w4 k4 s4 g4 => ?_)⟩)⟩
  have hS0 : BSt w w4 p w1.heap.size w2.heap.size w3.heap.size (newD 1000) (fun _ => 0) (fun _ => false) (X3 w1.heap.size w2.heap.size w3.heap.size) :=
    ⟨(h1.add ((k2.grew k3).grew k4) (Y := X3 w1.heap.size w2.heap.size w3.heap.size) fun b hb => by rcases hb with rfl | rfl | rfl <;> omega).mono fun _ h => .inr h, k4.get (k3.get g2 id) id, k4.get g3 id, g4, .inl rfl, .inr (.inl rfl), .inr (.inr rfl), by omega, by omega⟩
  have hI0 : BInv (newD 1000) (fun _ => 0) (fun _ => false) := ⟨⟨rfl, rfl⟩, by simp [Tidy, newD], fun k hk => One.none rfl⟩
  generalize w1.heap.size = P1 at hS0 ⊢
  generalize w2.heap.size = P2 at hS0 ⊢
  generalize w3.heap.size = P3 at hS0 ⊢
  clear g2 g3 g4 s2 s3 s4 k2 k3 k4
  refine ⟨fun m i w' => ∃ (j : Nat) (D : DiskV) (lf : Nat → Nat) (gf : Nat → Bool), i = j ∧ j ≤ n ∧ m = n - j ∧ BSt w w' p P1 P2 P3 D lf gf (X3 P1 P2 P3) ∧ BInv D lf gf, ⟨_, 0, _, _, _, rfl, Nat.zero_le _, rfl, hS0, hI0⟩, ?_⟩
  rintro m i B w5 ⟨j, D, lf, gf, rfl, hj, rfl, h5, hI5⟩
  have hP1 := lt_of_get h5.names
  have hP2 := lt_of_get h5.least
  have hP3 := lt_of_get h5.good
  have hw5 := h5.disk.gr.size
  refine PIf.dec (fun hlt => ?_) (fun hge => ?_)
  · have next : ∀ (w' : World) (D' : DiskV) (l' : Nat → Nat) (g' : Nat → Bool) (Y : Nat → Prop), BSt w w' p P1 P2 P3 D' l' g' (fun b => X3 P1 P2 P3 b ∨ Y b) → BInv D' l' g' → ∃ m', m' < n - j ∧ ∃ (j' : Nat) (D : DiskV) (lf : Nat → Nat) (gf : Nat → Bool), IntKind.wrap .i64 ((j : Int) + 1) = j' ∧ j' ≤ n ∧ m' = n - j' ∧ BSt w w' p P1 P2 P3 D lf gf (X3 P1 P2 P3) ∧ BInv D lf gf :=
      fun w' D' l' g' Y hS hI => ⟨n - (j + 1), by omega, j + 1, D', l', g', wrap_succ (by omega), by omega, rfl, hS.mono (fun _ h => .inl h) (.inl rfl) (.inr (.inl rfl)) (.inr (.inr rfl)), hI⟩
    obtain ⟨bb, off, x, es, rfl, hbs, hE, hx, hc, a1, n1, c1, rfl, hi1, hi2, hr1⟩ := (hl.grew h5.disk.gr).at (i := (j : Int)) (by omega) (by omega)
    refine ⟨bb, off, rfl, by omega, by omega, x.kind, x.n, x.name, x.to, a1, n1, c1, hc 0 (by decide), hc 1 (by decide), hc 2 (by decide), hc 3 (by decide), hc 4 (by decide), fill5 fun w6 k6 s6 g6 => ?_⟩
    have h6 := h5.add k6 (Y := (· = w5.heap.size)) fun b hb => ⟨by omega, by omega⟩
    refine ⟨x.n, cell_at g6 rfl, PC.ok (kit_Pick (by unfold I64; omega)) ?_⟩
    rintro _ _ ⟨rfl, rfl⟩
    have hp := pick_range (k := x.n) (n := 2) (by omega)
    generalize pick x.n 2 = kk at hp ⊢
    obtain ⟨k, rfl⟩ : ∃ k : Nat, kk = k := ⟨kk.toNat, by omega⟩
    have hk : k < 2 := by omega
    have hk' : 1 - k < 2 := by omega
    have hw1k : IntKind.wrap .i64 (1 - (k : Int)) = ((1 - k : Nat) : Int) := by rw [wrap_i64 (by unfold I64; omega)]; omega
    have hbx : ∀ b, b = w5.heap.size → (X3 P1 P2 P3 b ∨ b = w5.heap.size) ∧ w.heap.size ≤ b ∧ b ≠ P1 ∧ b ≠ P2 ∧ b ≠ P3 := fun b hb => ⟨.inr hb, by omega, by omega, by omega, by omega⟩
    refine ⟨_, rfl, ?_⟩
    rw [hw1k]
    refine ⟨P1, 0, rfl, by omega, by omega, nB k, h6.name hk, PS.mk g6 (by simp) fun w7 k7 s7 g7 => ?_⟩
    have h7 := h6.other k7 hbx
    refine ⟨P1, 0, rfl, by omega, by omega, nB (1 - k), h7.name hk', PS.mk g7 (by simp) fun w8 k8 s8 g8 => ?_⟩
    have h8 := h7.other k8 hbx
    have hr8 : Row cU8 1 w8 (In w) a1 n1 x.b := ((hr1.grew k6).keep k7 fun b hb e => by have : b < w.heap.size := hb; omega).keep k8 fun b hb e => by have : b < w.heap.size := hb; omega
    replace g8 : w8.heap[w5.heap.size]? = some (.cells #[.int .i64 x.kind, .int .i64 x.n, .string (nB k), .string (nB (1 - k)), .slice a1 n1 c1] 35 (0, 0)) := g8
    refine ⟨x.kind, cell_at g8 rfl, PC.ok (kit_Pick (by unfold I64; omega)) ?_⟩
    rintro _ _ ⟨rfl, rfl⟩
    refine ⟨_, rfl, PIf.eqI (fun _ => next _ D lf gf _ h8 hI5) (fun hne8 => ?_)⟩
    let x' : ActV := ⟨x.kind, x.n, nB k, nB (1 - k), x.b⟩
    have hst := hI5.step h5.disk.ok (x := x') hk rfl rfl hne8
    refine ⟨x.kind, x.n, nB k, nB (1 - k), a1, n1, c1, cell_at g8 rfl, cell_at g8 rfl, cell_at g8 rfl, cell_at g8 rfl, cell_at g8 rfl, PC.ok (h8.disk.call fun F hD hF => law_Does (x := x') hD hi2 hr8) ?_⟩
    rintro _ w9 ⟨rfl, h9, k9⟩
    have S9 := h8.did h9 k9
    have g9 := k9.get g8 fun hn => hn (.inr rfl)
    refine ⟨_, rfl, nB k, cell_at g9 rfl, PC.ok (law_file h9) ?_⟩
    rintro _ w10 ⟨a10, n10, c10, F10, rfl, ho10, hF10, h10, k10⟩
    have hn10 : n10 = ((D.does x').2.read (nB k)).1.length := ho10.len (by decide)
    have S10 := S9.grew k10
    have hkd : (x').kind = x.kind := rfl
    rw [hkd, ← hn10] at hst
    clear hc g6 g7 g8 g9 ho10 h10 hn10
    generalize D.does x' = r at hst S10 ⊢
    obtain ⟨no', D'⟩ := r
    simp only at hst S10 ⊢
    generalize hkdd : pick x.kind 10 = kd at hst hne8 ⊢
    obtain ⟨l1, hl1⟩ : ∃ l1, l1 = if (kd = 0 ∨ kd = 5) ∧ no' = 0 then upd lf k 0 else lf := ⟨_, rfl⟩
    obtain ⟨g1, hg1⟩ : ∃ g1, g1 = if (kd = 0 ∨ kd = 5) ∧ no' = 0 then upd gf k false else gf := ⟨_, rfl⟩
    obtain ⟨l2, hl2⟩ : ∃ l2, l2 = if (kd = 3 ∨ kd = 6) ∧ no' = 0 then upd l1 k n10 else l1 := ⟨_, rfl⟩
    obtain ⟨g2, hg2⟩ : ∃ g2, g2 = if (kd = 3 ∨ kd = 6) ∧ no' = 0 then upd g1 k true else g1 := ⟨_, rfl⟩
    obtain ⟨l3, hl3⟩ : ∃ l3, l3 = if kd = 4 ∧ no' = 0 then upd (upd l2 (1 - k) (l2 k)) k 0 else l2 := ⟨_, rfl⟩
    obtain ⟨g3, hg3⟩ : ∃ g3, g3 = if kd = 4 ∧ no' = 0 then upd (upd g2 (1 - k) true) k false else g2 := ⟨_, rfl⟩
    rw [noteL_chain kd no' k n10 _ _ lf l1 l2 l3 hl1 hl2 hl3, noteG_chain kd no' k gf g1 g2 g3 hg1 hg2 hg3] at hst
    refine ⟨_, _, _, rfl, fun w' => BSt w w' p P1 P2 P3 D' l1 g1 (fun b => X3 P1 P2 P3 b ∨ b = w5.heap.size), ⟨fun b w' => b = decide ((kd = 0 ∨ kd = 5) ∧ no' = 0) ∧ w' = w10, ?_, ?_⟩, ?_⟩
    · have hd : ∀ q : Bool, (q = decide ((kd = 0 ∨ kd = 5) ∧ no' = 0)) → q = decide ((kd = 0 ∨ kd = 5) ∧ no' = 0) ∧ w10 = w10 := fun q h => ⟨h, rfl⟩
      refine PIf.eqI (fun a0 => PIf.eqI (fun b0 => hd _ (by rw [decide_eq_true ⟨.inl a0, b0⟩])) fun b0 => PIf.eqI (fun c0 => by omega) fun c0 => hd _ (by rw [decide_eq_false (by omega)])) fun a0 => PIf.eqI (fun c0 => hd _ ?_) fun c0 => hd _ (by rw [decide_eq_false (by omega)])
      by_cases b0 : no' = 0
      · rw [decide_eq_true ⟨.inr c0, b0⟩, b0]; rfl
      · rw [decide_eq_false (by omega)]; simpa using b0
    · rintro _ B2 _ ⟨rfl, rfl⟩
      refine PIf.dec (fun hc1 => ⟨P2, 0, rfl, by omega, by omega, S10.setL (v := 0) hk fun w11 h11 _ => ⟨P3, 0, rfl, by omega, by omega, h11.setG hk fun w12 h12 _ => ?_⟩⟩) (fun hc1 => ?_)
      · rw [if_pos hc1] at hl1 hg1; rw [hl1, hg1]; exact h12
      · rw [if_neg hc1] at hl1 hg1; rw [hl1, hg1]; exact S10
    · rintro B2 w11 h11
      refine ⟨fun w' => BSt w w' p P1 P2 P3 D' l2 g2 (fun b => X3 P1 P2 P3 b ∨ b = w5.heap.size), ?_, ?_⟩
      · have no2 : ¬ ((kd = 3 ∨ kd = 6) ∧ no' = 0) → BSt w w11 p P1 P2 P3 D' l2 g2 (fun b => X3 P1 P2 P3 b ∨ b = w5.heap.size) := fun hc2 => by rw [hl2, hg2, if_neg hc2, if_neg hc2]; exact h11
        have yes2 : (kd = 3 ∨ kd = 6) ∧ no' = 0 → ∀ w', BSt w w' p P1 P2 P3 D' (upd l1 k n10) (upd g1 k true) (fun b => X3 P1 P2 P3 b ∨ b = w5.heap.size) → BSt w w' p P1 P2 P3 D' l2 g2 (fun b => X3 P1 P2 P3 b ∨ b = w5.heap.size) := fun hc2 w' h => by rw [hl2, hg2, if_pos hc2, if_pos hc2]; exact h
        refine PIf.eqI (fun a3 => PIf.eqI (fun b0 => ⟨P2, 0, rfl, by omega, by omega, h11.setL hk fun w12 h12 _ => ⟨P3, 0, rfl, by omega, by omega, h12.setG hk fun w13 h13 _ => yes2 (by omega) w13 h13⟩⟩) fun b0 => no2 (by omega)) fun a3 =>
          PIf.eqI (fun a6 => PIf.eqI (fun b0 => ⟨P2, 0, rfl, by omega, by omega, h11.setL hk fun w12 h12 _ => ⟨P3, 0, rfl, by omega, by omega, h12.setG hk fun w13 h13 _ => yes2 (by omega) w13 h13⟩⟩) fun b0 => no2 (by omega)) fun a6 => no2 (by omega)
      · rintro B3 w12 h12
        refine ⟨fun w' => BSt w w' p P1 P2 P3 D' l3 g3 (fun b => X3 P1 P2 P3 b ∨ b = w5.heap.size), ?_, ?_⟩
        · have no3 : ¬ (kd = 4 ∧ no' = 0) → BSt w w12 p P1 P2 P3 D' l3 g3 (fun b => X3 P1 P2 P3 b ∨ b = w5.heap.size) := fun hc2 => by rw [hl3, hg3, if_neg hc2, if_neg hc2]; exact h12
          refine PIf.eqI (fun a4 => PIf.eqI (fun b0 => ?_) fun b0 => no3 (by omega)) fun a4 => no3 (by omega)
          refine ⟨P2, 0, rfl, by omega, by omega, _, h12.leastAt hk, P2, 0, rfl, by omega, by omega, h12.setL hk' fun w13 h13 _ => ⟨P3, 0, rfl, by omega, by omega, h13.setG hk' fun w14 h14 _ => ⟨P2, 0, rfl, by omega, by omega, h14.setL (v := 0) hk fun w15 h15 _ => ⟨P3, 0, rfl, by omega, by omega, h15.setG hk fun w16 h16 _ => ?_⟩⟩⟩⟩
          rw [hl3, hg3, if_pos ⟨a4, b0⟩, if_pos ⟨a4, b0⟩]; exact h16
        · rintro B4 w13 h13
          refine PIf.eqI (fun a7 => ?_) (fun a7 => ?_)
          · rw [if_pos a7] at hst
            refine PC.ok (law_file (k := nB 0) h13.disk) ?_
            rintro _ w14 ⟨a14, n14, c14, F14, rfl, ho14, hF14, h14, k14⟩
            have hn14 : n14 = (D'.read (nB 0)).1.length := ho14.len (by decide)
            refine ⟨_, _, _, rfl, P2, 0, rfl, by omega, by omega, (h13.grew k14).setL (k := 0) (by omega) fun w15 h15 _ => PC.ok (law_file (k := nB 1) h15.disk) ?_⟩
            rintro _ w16 ⟨a16, n16, c16, F16, rfl, ho16, hF16, h16, k16⟩
            have hn16 : n16 = (D'.read (nB 1)).1.length := ho16.len (by decide)
            refine ⟨_, _, _, rfl, P2, 0, rfl, by omega, by omega, (h15.grew k16).setL (k := 1) (by omega) fun w17 h17 _ => next _ D' _ g3 _ (h17.cong (l' := fun i => if i = 0 then (D'.read (nB 0)).1.length else (D'.read (nB 1)).1.length) ?_ ?_) hst⟩
            · simp [upd, hn14]
            · simp [upd, hn16]
          · rw [if_neg a7] at hst
            exact next _ D' _ _ _ h13 hst
  · refine PC.ok (law_file (k := nB 0) h5.disk) ?_
    rintro _ w6 ⟨a6, n6, c6, F6, rfl, ho6, hF6, h6, k6⟩
    refine ⟨_, _, _, rfl, PC.ok (law_file (k := nB 1) h6) ?_⟩
    rintro _ w7 ⟨a7, n7, c7, F7, rfl, ho7, hF7, h7, k7⟩
    refine ⟨_, _, _, rfl, PA.mk fun w8 k8 s8 g8 => ?_⟩
    have hX : ∀ b, (F6 b ∨ F7 b ∨ b = w7.heap.size) → w5.heap.size ≤ b ∧ b < w8.heap.size := fun b hb => by
      have z6 := k6.size; have z7 := k7.size
      rcases hb with hb | hb | hb
      · have := hF6 b hb; have := ho6.dom b hb; omega
      · have := hF7 b hb; have := ho7.dom b hb; omega
      · omega
    have S8 := h5.add ((k6.grew k7).grew k8) hX
    have ho6 := (ho6.grew k7).grew k8
    have ho7 := ho7.grew k8
    have hd67 : ∀ b, (F6 b ∨ F7 b) → b ≠ w7.heap.size ∧ w5.heap.size ≤ b := fun b hb => by
      have z6 := k6.size; have z7 := k7.size
      rcases hb with hb | hb
      · have := hF6 b hb; have := ho6.dom b hb
        exact ⟨fun e => by have := (h6.mono (Y := F6) fun _ h => .inr h); obtain ⟨F, _, _, _, h4⟩ := this; have := h4 b hb; have := k7.size; omega, by omega⟩
      · exact ⟨fun e => by have := (h7.mono (Y := F7) fun _ h => .inr h); obtain ⟨F, _, _, _, h4⟩ := this; have := h4 b hb; omega, by have := hF7 b hb; omega⟩
    generalize hP4 : w7.heap.size = P4 at S8 g8 hd67 ⊢
    refine PC.ok (S8.disk.crash hkp) ?_
    rintro _ w9 ⟨rfl, h9, k9⟩
    have S9 := S8.did h9 k9
    have g9 := k9.get g8 fun hn => hn (.inr (.inr (.inr rfl)))
    have ho6 := ho6.keep k9 fun b hb hn => hn (.inr (.inl hb))
    have ho7 := ho7.keep k9 fun b hb hn => hn (.inr (.inr (.inl hb)))
    have hends := fun k hk => hI5.ends h5.disk.ok keep (k := k) hk
    have hreadD := fun k => read_len h5.disk.ok k
    have hreadC := fun k => read_len h9.ok k
    have htidyC : Tidy (D.crash keep).files := h9.ok.tidy
    refine ⟨rfl, ?_⟩
    -- what was, and is
    let cont : Nat → Nat → List UInt8 := fun t i => if i < t then ((D.crash keep).read (nB i)).1 else (D.read (nB i)).1
    refine ⟨fun m i w' => ∃ (t : Nat) (X : Nat → Prop) (sl : Nat → Option Addr × Nat × Nat) (Fs : Nat → Nat → Prop), i = t ∧ t ≤ 2 ∧ m = 2 - t ∧ BSt w w' p P1 P2 P3 (D.crash keep) lf gf X ∧ X P4 ∧
        w'.heap[P4]? = some (.cells #[.slice (sl 0).1 (sl 0).2.1 (sl 0).2.2, .slice (sl 1).1 (sl 1).2.1 (sl 1).2.2] 33 (0, 0)) ∧
        (∀ i, i < 2 → Lst cU8 5 (Fs i) w' (sl i).1 (sl i).2.1 (sl i).2.2 (cont t i) ∧ ∀ b, Fs i b → X b ∧ b ≠ P4 ∧ w5.heap.size ≤ b),
      ⟨_, 0, _, fun i => if i = 0 then (a6, n6, c6) else (a7, n7, c7), fun i => if i = 0 then F6 else F7, rfl, by omega, rfl, S9, .inr (.inr (.inr rfl)), g9, ?_⟩, ?_⟩
    · intro i hi
      rcases two i hi with rfl | rfl
      · exact ⟨ho6, fun b hb => ⟨.inr (.inl hb), hd67 b (.inl hb)⟩⟩
      · exact ⟨ho7, fun b hb => ⟨.inr (.inr (.inl hb)), hd67 b (.inr hb)⟩⟩
    rintro m i B2 w10 ⟨t, X, sl, Fs, rfl, ht, rfl, S10, hX4, g10, hsl⟩
    have hP4w : w5.heap.size ≤ P4 := by have := k6.size; have := k7.size; omega
    have wasAt : ∀ {w' : World} {sl : Nat → Option Addr × Nat × Nat}, w'.heap[P4]? = some (.cells #[.slice (sl 0).1 (sl 0).2.1 (sl 0).2.2, .slice (sl 1).1 (sl 1).2.1 (sl 1).2.2] 33 (0, 0)) → ∀ {k : Nat}, k < 2 → w'.cell? ⟨P4, 0 + Int.toNat (k : Int), none⟩ = some (.slice (sl k).1 (sl k).2.1 (sl k).2.2) := fun h k hk => by
      rw [Int.toNat_natCast, Nat.zero_add]
      rcases two k hk with rfl | rfl <;> exact cell_at h rfl
    refine PIf.dec (fun hlt => ?_) (fun hge2 => ?_)
    · have ht2 : t < 2 := by omega
      obtain ⟨e1, e2, e3⟩ := hends t ht2
      refine ⟨P1, 0, rfl, by omega, by omega, nB t, S10.name ht2, PC.ok (law_file S10.disk) ?_⟩
      rintro _ w11 ⟨a11, n11, c11, F11, rfl, ho11, hF11, h11, k11⟩
      have hn11 : n11 = ((D.crash keep).read (nB t)).1.length := ho11.len (by decide)
      have S11 := S10.add k11 (Y := F11) fun b hb => ⟨hF11 b hb, ho11.dom b hb⟩
      have g11 := k11.get g10 id
      -- how a round ends
      have fin : ∀ w', Grew w11 w' → PS w' ⟨P4, 0 + Int.toNat (t : Int), none⟩ (.slice a11 n11 c11) fun w'' => ∃ m', m' < 2 - t ∧ ∃ (t' : Nat) (X : Nat → Prop) (sl : Nat → Option Addr × Nat × Nat) (Fs : Nat → Nat → Prop), IntKind.wrap .i64 ((t : Int) + 1) = t' ∧ t' ≤ 2 ∧ m' = 2 - t' ∧ BSt w w'' p P1 P2 P3 (D.crash keep) lf gf X ∧ X P4 ∧
          w''.heap[P4]? = some (.cells #[.slice (sl 0).1 (sl 0).2.1 (sl 0).2.2, .slice (sl 1).1 (sl 1).2.1 (sl 1).2.2] 33 (0, 0)) ∧
          (∀ i, i < 2 → Lst cU8 5 (Fs i) w'' (sl i).1 (sl i).2.1 (sl i).2.2 (cont t' i) ∧ ∀ b, Fs i b → X b ∧ b ≠ P4 ∧ w5.heap.size ≤ b) := by
        intro w' hk
        have hP4lt := lt_of_get g10
        rw [Int.toNat_natCast, Nat.zero_add]
        refine PS.mk (hk.get g11 id) (by simp; omega) fun w'' k'' s'' g'' => ?_
        have hF11' : ∀ b, F11 b → b ≠ P4 := fun b hb => by have := hF11 b hb; omega
        refine ⟨2 - (t + 1), by omega, t + 1, _, upd sl t (a11, n11, c11), upd Fs t F11, wrap_succ (by omega), by omega, rfl, (S11.grew hk).other k'' fun b hb => ⟨.inl (hb ▸ hX4), by omega, by omega, by omega, by omega⟩, .inl hX4, ?_, fun i hi => ?_⟩
        · rw [g'']; rcases two t ht2 with rfl | rfl <;> rfl
        · by_cases e : i = t
          · subst e
            simp only [upd, if_true]
            refine ⟨?_, fun b hb => ⟨.inr hb, hF11' b hb, by have := hF11 b hb; have := S10.disk; have hh := lt_of_get S10.names; have := (hsl i hi).1; have : w5.heap.size ≤ w10.heap.size := by have := hP4w; omega
                                                             omega⟩⟩
            have hc : cont (i + 1) i = ((D.crash keep).read (nB i)).1 := if_pos (by omega)
            rw [hc]
            exact (ho11.grew hk).keep k'' hF11'
          · simp only [upd, if_neg e]
            obtain ⟨q1, q2⟩ := hsl i hi
            have hc : cont (t + 1) i = cont t i := by
              show (if i < t + 1 then _ else _) = (if i < t then _ else _)
              by_cases hh : i < t
              · rw [if_pos hh, if_pos (by omega)]
              · rw [if_neg hh, if_neg (by omega)]
            rw [hc]
            exact ⟨((q1.grew k11).grew hk).keep k'' fun b hb => (q2 b hb).2.1, fun b hb => ⟨.inl (q2 b hb).1, (q2 b hb).2⟩⟩
      refine ⟨_, _, _, rfl, fun w12 d12 => ⟨fun _ => False, P1, 0, rfl, by omega, by omega, id, nB t, (S11.grew d12.keep).name ht2, P3, 0, rfl, by omega, by omega, id, gf t, (S11.grew d12.keep).goodAt ht2, PC.ok ((S11.grew d12.keep).disk.list) ?_⟩⟩
      rintro _ w13 ⟨a13, n13, c13, F13, rfl, ho13, hF13, h13, k13⟩
      have hlen64 : (D.crash keep).list.length ≤ 64 := by rw [list_length]; exact h9.ok.many
      refine ⟨_, _, _, rfl, k13, PC.ok (law_has (ho13.row (by decide) (by unfold Big; omega))) ?_⟩
      rintro _ _ ⟨rfl, rfl⟩
      have hhas : (decide (nB t ∈ (D.crash keep).list) == gf t) = true := by
        rw [← e1]
        by_cases hm : nB t ∈ (D.crash keep).list
        · rw [decide_eq_true hm, mem_list.1 hm]; rfl
        · rw [decide_eq_false hm]
          cases hg : (aget (D.crash keep).files (nB t)).isSome
          · rfl
          · exact absurd (mem_list.2 hg) hm
      have k1213 : Grew w11 w13 := Keep.then d12.keep k13
      refine ⟨_, rfl, Keep.refl _, PIf.not (PIf.tt hhas ⟨P3, 0, rfl, by omega, by omega, gf t, (S11.grew k1213).goodAt ht2, PIf.mk (fun hg => ?_) (fun hg => ⟨P4, 0, rfl, by omega, by omega, fin w13 k1213⟩)⟩)⟩
      obtain ⟨f1, f2, f3⟩ := e3 hg
      have hct : cont t t = (D.read (nB t)).1 := if_neg (by omega)
      obtain ⟨q1, q2⟩ := hsl t ht2
      rw [hct] at q1
      have q1' := (q1.grew k11).grew k1213
      refine ⟨P4, 0, rfl, by omega, by omega, _, _, _, wasAt (k1213.get g11 id) ht2, PC.ok (law_begins (lst_bytes (ho11.grew k1213) (by have := hreadC (nB t); omega)) (lst_bytes q1' (by have := hreadD (nB t); omega)) q1'.cap_le) ?_⟩
      rintro _ w14 ⟨rfl, d14⟩
      have k14 : Grew w11 w14 := Keep.then k1213 d14.keep
      have S14 := S11.grew k14
      refine ⟨_, rfl, d14.keep, PIf.not (PIf.tt (by rw [decide_eq_true f1]) ⟨P2, 0, rfl, by omega, by omega, _, S14.leastAt ht2, PIf.dec (fun h => by omega) fun _ => ⟨P2, 0, rfl, by omega, by omega, _, S14.leastAt ht2, PIf.dec (fun h => ?_) fun _ => ⟨P4, 0, rfl, by omega, by omega, fin w14 k14⟩⟩⟩)⟩
      exfalso
      have hr := hreadC (nB t)
      rw [wrap_i64 (by unfold I64; omega)] at h
      omega
    · have ht2 : t = 2 := by omega
      subst ht2
      refine PC.ok (S10.disk.crash (by unfold I64; omega)) ?_
      rintro _ w11 ⟨rfl, h11, k11⟩
      have S11 := S10.did h11 k11
      have g11 := k11.get g10 fun hn => hn hX4
      obtain ⟨p0, q0⟩ := hsl 0 (by omega)
      obtain ⟨p1, q1⟩ := hsl 1 (by omega)
      have p0 := p0.keep k11 fun b hb hn => hn (q0 b hb).1
      have p1 := p1.keep k11 fun b hb hn => hn (q1 b hb).1
      have c0 : cont 2 0 = ((D.crash keep).read (nB 0)).1 := rfl
      have c1 : cont 2 1 = ((D.crash keep).read (nB 1)).1 := rfl
      rw [c0] at p0; rw [c1] at p1
      have r0 := (hends 0 (by omega)).2.1
      have r1 := (hends 1 (by omega)).2.1
      refine ⟨rfl, fun w12 d12 => ⟨fun _ => False, P4, 0, rfl, by omega, by omega, id, _, _, _, wasAt (d12.keep (S := fun _ => False) |>.get g11 id) (k := 0) (by omega), PC.ok (law_file (k := nB 0) (S11.grew d12.keep).disk) ?_⟩⟩
      rintro _ w13 ⟨a13, n13, c13, F13, rfl, ho13, hF13, h13, k13⟩
      rw [r0] at ho13
      have k1213 : Grew w11 w13 := Keep.then d12.keep k13
      refine ⟨_, _, _, rfl, k13, PC.ok (kit_SameBytes (lst_bytes ho13 (by have := hreadC (nB 0); omega)) (lst_bytes (p0.grew k1213) (by have := hreadC (nB 0); omega))) ?_⟩
      rintro _ w14 ⟨rfl, d14⟩
      have k14 : Grew w11 w14 := Keep.then k1213 d14.keep
      refine ⟨_, rfl, d14.keep, PIf.tt (by simp) ⟨P4, 0, rfl, by omega, by omega, id, _, _, _, wasAt (k14.get g11 id) (k := 1) (by omega), PC.ok (law_file (k := nB 1) (S11.grew k14).disk) ?_⟩⟩
      rintro _ w15 ⟨a15, n15, c15, F15, rfl, ho15, hF15, h15, k15⟩
      rw [r1] at ho15
      have k1115 : Grew w11 w15 := Keep.then k14 k15
      refine ⟨_, _, _, rfl, k15, PC.ok (kit_SameBytes (lst_bytes ho15 (by have := hreadC (nB 1); omega)) (lst_bytes (p1.grew k1115) (by have := hreadC (nB 1); omega))) ?_⟩
      rintro _ w16 ⟨rfl, d16⟩
      refine ⟨_, rfl, d16.keep, PIf.tt (by simp) (PC.ok known fun v w' ⟨hv, hk⟩ => ⟨true, hv, hk, Ok.mk ⟨rfl, (h15.gr.grew d16.keep).grew hk⟩⟩)⟩
end Go.Proofs.Yticehdfebghloaa
