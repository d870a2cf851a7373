/- VdiskFuse: its walk, and its plain law -/
import Derived.Test.YticehdfebghloaaVdPlain
import Derived.Test.YticehdfebghloaaDuo
namespace Go.Proofs.Yticehdfebghloaa
open Go.Lift
set_option linter.unusedVariables false
set_option maxRecDepth 20000

def diskT (p : Nat) (D : DiskV) : Thing := ⟨fun w F => DiskAt w p F D, fun h hk hd => h.keep hk hd, fun h => h.dom⟩

section
variable {w0 w w' : World} {p : Nat} {D : DiskV} {B : Thing} {X : Nat → Prop}
end
end Go.Proofs.Yticehdfebghloaa
namespace Go.Lift
open Go.Proofs Go.Proofs.Yticehdfebghloaa
set_option linter.unusedVariables false
set_option maxRecDepth 20000
section
variable {w0 w w' : World} {p : Nat} {D : DiskV} {B : Thing} {X : Nat → Prop}
theorem Duo.does {Db : Nat → Prop} {x : ActV} {a : Option Addr} {n c : Nat} (h : Duo w0 w (diskT p D) B X) (hn : I64 x.n) (hb : Row cU8 1 w Db a n x.b) :
    Calls Try.prog F_law19_Does #[.pointer (some ⟨p, 0, none⟩), .agg #[.int .i64 x.kind, .int .i64 x.n, .string x.name, .string x.to, .slice a n c]] w (Ok fun v w' => v = .int .i64 (D.does x).1 ∧ Duo w0 w' (diskT p (D.does x).2) B X ∧ Keep (fun b => ¬ X b) w w') :=
  h.call (A' := diskT p (D.does x).2) (Q := fun v _ => v = .int .i64 (D.does x).1) fun F hD _ => Calls.ok (law_Does hD hn hb) fun v w' ⟨F', h1, h2, h3⟩ => ⟨F', h1, h2, h3⟩
theorem Duo.create {k : ByteArray} (h : Duo w0 w (diskT p D) B X) : Calls Try.prog F_vdisk_Disk_Create #[.pointer (some ⟨p, 0, none⟩), .string k] w (Ok fun v w' => v = .int .i64 (D.create k).1 ∧ Duo w0 w' (diskT p (D.create k).2) B X ∧ Keep (fun b => ¬ X b) w w') :=
  h.call (A' := diskT p (D.create k).2) (Q := fun v _ => v = .int .i64 (D.create k).1) fun F hD _ => Calls.ok (Disk_Create hD) fun v w' ⟨F', h1, h2, h3⟩ => ⟨F', h1, h2, h3⟩
theorem Duo.crash {n : Int} (h : Duo w0 w (diskT p D) B X) (hn : I64 n) : Calls Try.prog F_vdisk_Disk_Crash #[.pointer (some ⟨p, 0, none⟩), .int .i64 n] w (Ok fun v w' => v = .tuple #[] ∧ Duo w0 w' (diskT p (D.crash n)) B X ∧ Keep (fun b => ¬ X b) w w') :=
  h.call (A' := diskT p (D.crash n)) (Q := fun v _ => v = .tuple #[]) fun F hD _ => Calls.ok (Disk_Crash hD hn) fun v w' ⟨F', h1, h2, h3⟩ => ⟨F', h1, h2, h3⟩
theorem Duo.fuse {n : Int} (h : Duo w0 w (diskT p D) B X) (hn : I64 n) : Calls Try.prog F_vdisk_Disk_Fuse #[.pointer (some ⟨p, 0, none⟩), .int .i64 n] w (Ok fun v w' => v = .tuple #[] ∧ Duo w0 w' (diskT p (D.fuse n)) B X ∧ Keep (fun b => ¬ X b) w w') :=
  h.call (A' := diskT p (D.fuse n)) (Q := fun v _ => v = .tuple #[]) fun F hD _ => Calls.ok (Disk_Fuse hn hD) fun v w' ⟨h1, h2, h3⟩ => ⟨F, h1, h2, h3⟩
theorem Duo.dead (h : Duo w0 w (diskT p D) B X) : Calls Try.prog F_vdisk_Disk_Dead #[.pointer (some ⟨p, 0, none⟩)] w (Ok fun v w' => v = .bool D.dead ∧ w = w') := by
  obtain ⟨F, G, h1, _⟩ := h; exact Disk_Dead h1
theorem Duo.room (h : Duo w0 w (diskT p D) B X) : Calls Try.prog F_vdisk_Disk_Room #[.pointer (some ⟨p, 0, none⟩)] w (Ok fun v w' => v = .int .i64 D.room ∧ Duo w0 w' (diskT p D) B X ∧ Grew w w') :=
  h.look (Q := fun v _ => v = .int .i64 D.room) fun F hD => Disk_Room hD
theorem Duo.ok (h : Duo w0 w (diskT p D) B X) : D.Ok := by obtain ⟨F, G, h1, _⟩ := h; exact DiskAt.ok h1
theorem Duo.list (h : Duo w0 w (diskT p D) B X) : Calls Try.prog F_vdisk_Disk_List #[.pointer (some ⟨p, 0, none⟩)] w (Ok fun v w' => ∃ a n c F, v = .slice a n c ∧ Lst cStr 9 F w' a n c D.list ∧ (∀ b, F b → w.heap.size ≤ b) ∧ Duo w0 w' (diskT p D) B (fun b => X b ∨ F b) ∧ Grew w w') := by
  have h0 := h
  obtain ⟨F, G, h1, _⟩ := h
  refine Calls.ok (Disk_List h1) ?_
  rintro v w' ⟨a, n, c, G, rfl, ho, hk, hG⟩
  exact ⟨a, n, c, G, rfl, ho, hG, h0.add hk fun b hb => ⟨hG b hb, ho.dom b hb⟩, hk⟩
theorem Duo.read {k : ByteArray} (h : Duo w0 w (diskT p D) B X) : Calls Try.prog F_vdisk_Disk_Read #[.pointer (some ⟨p, 0, none⟩), .string k] w (Ok fun v w' => ∃ a n c F, v = .tuple #[.slice a n c, .int .i64 (D.read k).2] ∧ Lst cU8 5 F w' a n c (D.read k).1 ∧ (∀ b, F b → w.heap.size ≤ b) ∧ Duo w0 w' (diskT p D) B (fun b => X b ∨ F b) ∧ Grew w w') := by
  have h0 := h
  obtain ⟨F, G, h1, _⟩ := h
  refine Calls.ok (Disk_Read h1) ?_
  rintro v w' ⟨u, rfl, a, n, c, G, rfl, ho, hk, hG⟩
  exact ⟨a, n, c, G, rfl, ho, hG, h0.add hk fun b hb => ⟨hG b hb, ho.dom b hb⟩, hk⟩
theorem Duo.file {k : ByteArray} (h : Duo w0 w (diskT p D) B X) : Calls Try.prog F_law19_file #[.pointer (some ⟨p, 0, none⟩), .string k] w (Ok fun v w' => ∃ a n c F, v = .slice a n c ∧ Lst cU8 5 F w' a n c (D.read k).1 ∧ (∀ b, F b → w.heap.size ≤ b) ∧ Duo w0 w' (diskT p D) B (fun b => X b ∨ F b) ∧ Grew w w') := by
  refine L_law19_file (PC.ok h.read ?_)
  rintro _ w1 ⟨a, n, c, F, rfl, ho, hF, h1, k1⟩
  exact ⟨_, _, _, _, rfl, Ok.mk ⟨a, n, c, F, rfl, ho, hF, h1, k1⟩⟩
end
end Go.Lift
namespace Go.Proofs.Yticehdfebghloaa
open Go.Lift
set_option linter.unusedVariables false
set_option maxRecDepth 20000
section
variable {w0 w w' : World} {p : Nat} {D : DiskV} {B : Thing} {X : Nat → Prop}
end

/-- what an act that writes does, where nothing dies -/
def bodyOf (x : ActV) : DiskV → Int × DiskV :=
  if pick x.kind 10 = 0 then fun D => if isNameV x.name then (if (aget D.files x.name).isSome then (16, D) else if 64 ≤ D.files.length then (12, D) else (0, D.setF x.name ⟨[], 0, false⟩)) else (1, D)
  else if pick x.kind 10 = 1 ∨ pick x.kind 10 = 2 then DiskV.onF x.name fun D f => if (x.b.length : Int) > D.room then (12, D) else (0, D.setF x.name { f with bytes := f.bytes ++ x.b })
  else if pick x.kind 10 = 3 then DiskV.onF x.name fun D f => (0, D.setF x.name (f.cut f.bytes.length))
  else if pick x.kind 10 = 4 then DiskV.onF x.name fun D f => if isNameV x.to then (0, (D.delF x.name).setF x.to { f with good := true }) else (1, D)
  else if pick x.kind 10 = 5 then DiskV.onF x.name fun D f => (0, D.delF x.name)
  else DiskV.onF x.name fun D f => (0, D.setF x.name (f.cut x.n))

theorem does_body {D : DiskV} {x : ActV} (h : ¬ pick x.kind 10 > 6) : D.does x = D.op (bodyOf x) := by
  have hr := pick_range (k := x.kind) (n := 10) (by omega)
  unfold DiskV.does bodyOf
  split
  · rfl
  · split
    · rfl
    · split
      · rfl
      · split
        · rfl
        · split
          · rfl
          · split
            · rfl
            · omega

/-- it hangs on the files, and the size, alone -/
def Uni (fs : List (ByteArray × FileV)) (ms : Nat) (body : DiskV → Int × DiskV) : Prop := ∃ c fs', ∀ D : DiskV, D.files = fs → D.most = ms → body D = (c, D.withF fs')
theorem Uni.onF {fs : List (ByteArray × FileV)} {ms : Nat} {k : ByteArray} {body : DiskV → FileV → Int × DiskV} (h : ∀ f, Uni fs ms fun D => body D f) : Uni fs ms (DiskV.onF k body) := by
  cases hk : aget fs k with
  | none => exact ⟨14, fs, fun D h1 h2 => by unfold DiskV.onF; rw [h1, hk]; unfold DiskV.withF; rw [← h1]⟩
  | some f =>
    obtain ⟨c, fs', hc⟩ := h f
    exact ⟨c, fs', fun D h1 h2 => by unfold DiskV.onF; rw [h1, hk]; exact hc D h1 h2⟩
theorem Uni.same {fs : List (ByteArray × FileV)} {ms : Nat} (e : Int) : Uni fs ms fun D => (e, D) := ⟨e, fs, fun D h1 h2 => by unfold DiskV.withF; rw [← h1]⟩
theorem Uni.set {fs : List (ByteArray × FileV)} {ms : Nat} (k : ByteArray) (f : FileV) : Uni fs ms fun D => (0, D.setF k f) := ⟨0, aput fs k f, fun D h1 h2 => by unfold DiskV.withF DiskV.setF; rw [← h1]⟩
theorem Uni.del {fs : List (ByteArray × FileV)} {ms : Nat} (k : ByteArray) : Uni fs ms fun D => (0, D.delF k) := ⟨0, adel fs k, fun D h1 h2 => by unfold DiskV.withF DiskV.delF; rw [← h1]⟩
theorem Uni.ite {fs : List (ByteArray × FileV)} {ms : Nat} {q : Prop} [Decidable q] {a b : DiskV → Int × DiskV} (ha : Uni fs ms a) (hb : Uni fs ms b) : Uni fs ms fun D => if q then a D else b D := by
  by_cases h : q
  · simp only [if_pos h]; exact ha
  · simp only [if_neg h]; exact hb

theorem uni_body (x : ActV) (fs : List (ByteArray × FileV)) (ms : Nat) : Uni fs ms (bodyOf x) := by
  unfold bodyOf
  split
  · have h : Uni fs ms fun D => if isNameV x.name then (if (aget fs x.name).isSome then (16, D) else if 64 ≤ fs.length then (12, D) else (0, D.setF x.name ⟨[], 0, false⟩)) else (1, D) :=
      Uni.ite (Uni.ite (Uni.same _) (Uni.ite (Uni.same _) (Uni.set _ _))) (Uni.same _)
    obtain ⟨c, fs', hc⟩ := h
    exact ⟨c, fs', fun D h1 h2 => by have e := hc D h1 h2; rw [← h1] at e; exact e⟩
  · split
    · refine Uni.onF fun f => ?_
      have h : Uni fs ms fun D => if (x.b.length : Int) > (ms : Int) - sumLen fs then (12, D) else (0, D.setF x.name { f with bytes := f.bytes ++ x.b }) := Uni.ite (Uni.same _) (Uni.set _ _)
      obtain ⟨c, fs', hc⟩ := h
      exact ⟨c, fs', fun D h1 h2 => by have e := hc D h1 h2; rw [← h1, ← h2] at e; exact e⟩
    · split
      · exact Uni.onF fun f => Uni.set _ _
      · split
        · refine Uni.onF fun f => Uni.ite ?_ (Uni.same _)
          exact ⟨0, aput (adel fs x.name) x.to { f with good := true }, fun D h1 h2 => by unfold DiskV.withF DiskV.setF DiskV.delF; rw [← h1]⟩
        · split
          · exact Uni.onF fun f => Uni.del _
          · exact Uni.onF fun f => Uni.set _ _

/-- a disk with a fuse, and the same without one -/
structure Burns (n : Nat) (k : Nat) (D E : DiskV) : Prop where
  files : D.files = E.files
  most : D.most = E.most
  calm : Calm E
  fused : D.fused = true
  dead : D.dead = decide (n < k)
  left : D.left = ((n - k : Nat) : Int)

theorem Burns.step {n k : Nat} {D E : DiskV} (h : Burns n k D E) {x : ActV} (hx : ¬ pick x.kind 10 > 6) :
    (k + 1 ≤ n → (D.does x).1 = (E.does x).1 ∧ Burns n (k + 1) (D.does x).2 (E.does x).2) ∧ (n < k + 1 → (D.does x).1 = 15 ∧ Burns n (k + 1) (D.does x).2 E) := by
  obtain ⟨c, fs', hu⟩ := uni_body x E.files E.most
  rw [does_body hx, does_body hx]
  have hE : E.op (bodyOf x) = (c, E.withF fs') := by rw [h.calm.op, hu E rfl rfl]
  refine ⟨fun hk => ?_, fun hk => ?_⟩
  · have hnd : D.dies = false := by
      unfold DiskV.dies
      rw [h.dead, h.fused, h.left, decide_eq_false (by omega)]
      simp; omega
    have ha : D.armed = { D with left := D.left - 1 } := by unfold DiskV.armed; rw [if_pos h.fused]
    have hD : D.op (bodyOf x) = (c, D.armed.withF fs') := by
      unfold DiskV.op
      rw [if_neg (by simp [hnd]), hu D.armed ((armed_files D).trans h.files) ((armed_most D).trans h.most)]
    rw [hD, hE]
    refine ⟨rfl, ⟨rfl, (armed_most D).trans h.most, ⟨h.calm.dead, h.calm.fused⟩, ?_, ?_, ?_⟩⟩
    · rw [ha]; exact h.fused
    · rw [ha]; show D.dead = _; rw [h.dead, decide_eq_false (by omega), decide_eq_false (by omega)]
    · rw [ha]; show D.left - 1 = _; rw [h.left]; omega
  · have hd : D.dies = true := by
      unfold DiskV.dies
      rw [h.fused, h.left]
      have : n - k = 0 := by omega
      rw [this]; simp
    have hD : D.op (bodyOf x) = (15, D.gone) := by unfold DiskV.op; rw [if_pos hd]
    rw [hD]
    refine ⟨rfl, ⟨h.files, h.most, h.calm, h.fused, ?_, ?_⟩⟩
    · show true = _; rw [decide_eq_true (by omega)]
    · show D.left = _; rw [h.left]; omega

theorem crash_files {D E : DiskV} (h : D.files = E.files) (n : Int) : (D.crash n).files = (E.crash n).files := by
  show (D.files.filter _).map _ = (E.files.filter _).map _
  rw [h]
theorem read_files {D E : DiskV} (h : D.files = E.files) (hd : D.dead = E.dead) (k : ByteArray) : D.read k = E.read k := by unfold DiskV.read; rw [h, hd]

theorem VdiskFuse {a : Option Addr} {n c : Nat} {l : List ActV} {n0 : Int} {w : World} (hl : Row cAct 72 w (In w) a n l) :
    Calls Try.prog F_law19_VdiskFuse #[.slice a n c, .int .i64 n0] w (Ok (tru w)) := by
  have hn := hl.len
  refine L_law19_VdiskFuse (PC.ok (law_Long hl) ?_)
  rintro _ _ ⟨lb, rfl, rfl, hlong⟩
  refine ⟨_, rfl, PIf.mk (fun _ => known' (Keep.refl _)) fun hlb => PC.ok vdisk_New ?_⟩
  obtain ⟨hl100, hlx⟩ := hlong hlb
  intro v1 w1 hv1
  rw [if_neg (by omega)] at hv1
  obtain ⟨p, F1, rfl, hD1, k1, hF1⟩ := hv1
  refine ⟨_, _, rfl, PC.ok vdisk_New ?_⟩
  intro v2 w2 hv2
  rw [if_neg (by omega)] at hv2
  obtain ⟨q, F2, rfl, hD2, k2, hF2⟩ := hv2
  have hd : Duo w w2 (diskT p (newD 1000)) (diskT q (newD 1000)) no := (Duo.of (A := diskT p (newD 1000)) (B := diskT q (newD 1000)) (Keep.refl w) hD1 hF1 k1 hD2 hF2 k2).mono fun _ h => h.elim
  refine ⟨_, _, rfl, PIf.ff rfl (PIf.ff rfl (eq_nil_ptr uD ⟨_, rfl, PIf.ff rfl (eq_nil_ptr uD ⟨_, rfl, PIf.ff rfl (PC.ok (kit_Pick (by unfold I64; omega)) ?_)⟩)⟩))⟩
  rintro _ _ ⟨rfl, rfl⟩
  have hp := pick_range (k := n0) (n := 110) (by omega)
  generalize pick n0 110 = nn at hp ⊢
  obtain ⟨N, rfl⟩ : ∃ N : Nat, nn = N := ⟨nn.toNat, by omega⟩
  refine ⟨_, rfl, PC.ok (hd.fuse (by unfold I64; omega)) ?_⟩
  rintro _ w3 ⟨rfl, hd3, -⟩
  have hb0 : Burns N 0 ((newD 1000).fuse N) (newD 1000) := ⟨rfl, rfl, ⟨rfl, rfl⟩, rfl, by simp [DiskV.fuse, newD], by show max (N : Int) 0 = _; omega⟩
  refine ⟨rfl, ?_⟩
  refine ⟨fun m wr i w' => ∃ (j k : Nat) (D E : DiskV), i = j ∧ wr = k ∧ j ≤ n ∧ k ≤ j ∧ m = n - j ∧ Duo w w' (diskT p D) (diskT q E) no ∧ Burns N k D E, ⟨_, 0, 0, _, _, rfl, rfl, Nat.zero_le _, Nat.le_refl _, rfl, hd3, hb0⟩, ?_⟩
  rintro m wr i B w4 ⟨j, k, D, E, rfl, rfl, hj, hkj, rfl, h4, hb⟩
  refine PIf.dec (fun hlt => ?_) (fun hge => ?_)
  · obtain ⟨bb, off, x, es, rfl, hbs, hE, hx, hc, a1, n1, c1, rfl, hi1, hi2, hr1⟩ := (hl.grew h4.gr).at (i := (j : Int)) (by omega) (by omega)
    refine ⟨bb, off, rfl, by omega, by omega, x.kind, hc 0 (by decide), PC.ok (kit_Pick (by unfold I64; omega)) ?_⟩
    rintro _ _ ⟨rfl, rfl⟩
    refine ⟨_, rfl, PIf.dec (fun h6 => ⟨_, by omega, j + 1, k, D, E, wrap_succ (by omega), rfl, by omega, by omega, rfl, h4, hb⟩) (fun h6 => ?_)⟩
    obtain ⟨st1, st2⟩ := hb.step h6
    refine ⟨bb, off, rfl, by omega, by omega, x.kind, x.n, x.name, x.to, a1, n1, c1, hc 0 (by decide), hc 1 (by decide), hc 2 (by decide), hc 3 (by decide), hc 4 (by decide), PC.ok (h4.does hi2 hr1) ?_⟩
    rintro _ w5 ⟨rfl, h5, -⟩
    refine ⟨_, rfl, ?_⟩
    rw [wrap_succ (show k < 4611686018427387904 by omega)]
    refine PIf.dec (fun hle => ?_) (fun hgt => ?_)
    · obtain ⟨e1, b1⟩ := st1 (by omega)
      obtain ⟨bb', off', x', es', hbb', hbs', hE', hx', hc', a1', n1', c1', rfl, hi1', hi2', hr1'⟩ := (hl.grew h5.gr).at (i := (j : Int)) (by omega) (by omega)
      rw [hx] at hx'; cases hx'
      refine ⟨bb', off', hbb', by omega, by omega, x.kind, x.n, x.name, x.to, a1', n1', c1', hc' 0 (by decide), hc' 1 (by decide), hc' 2 (by decide), hc' 3 (by decide), hc' 4 (by decide), PC.ok (h5.swap.does hi2' hr1') ?_⟩
      rintro _ w6 ⟨rfl, h6', -⟩
      refine ⟨_, rfl, PIf.ff (by rw [e1]; simp) (PC.ok h6'.swap.dead ?_)⟩
      rintro _ _ ⟨rfl, rfl⟩
      refine ⟨_, rfl, PIf.ff (by rw [b1.dead, decide_eq_false (by omega)]) ⟨_, ?_, j + 1, k + 1, _, _, wrap_succ (by omega), rfl, by omega, by omega, rfl, h6'.swap, b1⟩⟩
      omega
    · obtain ⟨e1, b1⟩ := st2 (by omega)
      refine PIf.ff (by rw [e1]; rfl) (PC.ok h5.dead ?_)
      rintro _ _ ⟨rfl, rfl⟩
      refine ⟨_, rfl, PIf.not (PIf.tt (by rw [b1.dead, decide_eq_true (by omega)]) ⟨_, ?_, j + 1, k + 1, _, _, wrap_succ (by omega), rfl, by omega, by omega, rfl, h5, b1⟩)⟩
      omega
  · refine PC.ok (h4.read (k := ⟨#[120]⟩)) ?_
    rintro _ w5 ⟨a5, n5, c5, F5, rfl, ho5, hF5, h5, k5⟩
    refine ⟨_, _, _, _, rfl, PC.ok h5.dead ?_⟩
    rintro _ _ ⟨rfl, rfl⟩
    have hrd : ((((D.read ⟨#[120]⟩).2 : Int) == 15) == D.dead) = true := by
      unfold DiskV.read
      cases hdd : D.dead
      · cases aget D.files ⟨#[120]⟩ <;> rfl
      · rfl
    refine ⟨_, rfl, PIf.not (PIf.tt hrd (PC.ok h5.room ?_))⟩
    rintro _ w6 ⟨rfl, h6, k6⟩
    refine ⟨_, rfl, PC.ok h6.swap.room ?_⟩
    rintro _ w7 ⟨rfl, h7, k7⟩
    have hroom : D.room = E.room := by unfold DiskV.room DiskV.used; rw [hb.files, hb.most]
    refine ⟨_, rfl, PIf.ff (by rw [hroom]; simp) (PC.ok h7.swap.list ?_)⟩
    rintro _ w8 ⟨a8, n8, c8, F8, rfl, ho8, hF8, h8, k8⟩
    refine ⟨_, _, _, rfl, PC.ok h8.swap.list ?_⟩
    rintro _ w9 ⟨a9, n9, c9, F9, rfl, ho9, hF9, h9, k9⟩
    have hlist : D.list = E.list := by unfold DiskV.list; rw [hb.files]
    have hEl : E.list.length ≤ 64 := by rw [list_length]; exact h4.swap.ok.many
    refine ⟨_, _, _, rfl, PC.ok (kit_SameTexts ((ho8.grew k9).row (by decide) (by rw [hlist]; unfold Big; omega)) (ho9.row (by decide) (by unfold Big; omega))) ?_⟩
    rintro _ w10 ⟨rfl, d10⟩
    refine ⟨_, rfl, PIf.not (PIf.tt (by rw [hlist]; simp) (PC.ok ((h9.swap.grew d10.keep).crash (by unfold I64; omega)) ?_))⟩
    rintro _ w11 ⟨rfl, h11, -⟩
    refine ⟨rfl, PC.ok (h11.swap.crash (by unfold I64; omega)) ?_⟩
    rintro _ w12 ⟨rfl, h12, -⟩
    have hcf := crash_files hb.files 5
    have hD12 : (D.crash 5).dead = false := rfl
    have hE12 : (E.crash 5).dead = false := rfl
    have hDF : (D.crash 5).fused = false := rfl
    replace h12 : Duo w w12 (diskT q (E.crash 5)) (diskT p (D.crash 5)) no := h12.mono fun _ h => h.elim
    generalize D.crash 5 = D2 at hcf hD12 h12 hDF
    generalize E.crash 5 = E2 at hcf hE12 h12
    have hlist2 : D2.list = E2.list := by unfold DiskV.list; rw [hcf]
    have hEl2 : E2.list.length ≤ 64 := by rw [list_length]; exact h12.ok.many
    refine ⟨rfl, PC.ok h12.list ?_⟩
    rintro _ w13 ⟨a13, n13, c13, F13, rfl, ho13, hF13, h13, k13⟩
    refine ⟨_, _, _, rfl, PC.ok h13.swap.dead ?_⟩
    rintro _ _ ⟨rfl, rfl⟩
    refine ⟨_, rfl, PIf.ff hD12 (PC.ok h13.swap.list ?_)⟩
    rintro _ w14 ⟨a14, n14, c14, F14, rfl, ho14, hF14, h14, k14⟩
    have hrow13 := (ho13.row (bytes := 16) (by decide) (by unfold Big; omega)).grew k14
    refine ⟨_, _, _, rfl, PC.ok (kit_SameTexts (ho14.row (by decide) (by rw [hlist2]; unfold Big; omega)) hrow13) ?_⟩
    rintro _ w15 ⟨rfl, d15⟩
    have hn13 : n13 = E2.list.length := ho13.len (by decide)
    refine ⟨_, rfl, PIf.not (PIf.tt (by rw [hlist2]; simp) ?_)⟩
    have h15 := (h14.mono (Y := no) fun _ h => h.elim).grew d15.keep
    have hrow15 := hrow13.grew d15.keep
    refine ⟨fun m i w' => ∃ j : Nat, i = j ∧ j ≤ n13 ∧ m = n13 - j ∧ Duo w w' (diskT p D2) (diskT q E2) no ∧ Grew w15 w', ⟨_, 0, rfl, Nat.zero_le _, rfl, h15, Keep.refl _⟩, ?_⟩
    rintro m i B2 w16 ⟨j2, rfl, hj2, rfl, h16, k16⟩
    refine PIf.dec (fun hlt2 => fun w17 d17 => ?_) (fun hge2 => ?_)
    · have k17 : Grew w15 w17 := Keep.then k16 d17.keep
      obtain ⟨b1, o1, y, hb1, hy, _, hcy⟩ := (hrow15.grew k17).at1 (i := j2) (by omega)
      refine ⟨fun _ => False, b1, o1, hb1, by omega, by omega, y, hcy, b1, o1, hb1, by omega, by omega, id, y, hcy, PC.ok ((h16.grew d17.keep).file) ?_⟩
      rintro _ w18 ⟨a18, n18, c18, F18, rfl, ho18, hF18, h18, k18⟩
      refine ⟨_, _, _, rfl, k18, PC.ok h18.swap.file ?_⟩
      rintro _ w19 ⟨a19, n19, c19, F19, rfl, ho19, hF19, h19, k19⟩
      have hrl := read_len h12.ok y
      have hre : D2.read y = E2.read y := read_files hcf (hD12.trans hE12.symm) y
      refine ⟨_, _, _, rfl, k19, PC.ok (kit_SameBytes (lst_bytes (ho18.grew k19) (by rw [hre]; omega)) (lst_bytes ho19 (by omega))) ?_⟩
      rintro _ w20 ⟨rfl, d20⟩
      refine ⟨_, rfl, d20.keep, PIf.not (PIf.tt (by rw [hre]; simp) ⟨n13 - (j2 + 1), by omega, j2 + 1, wrap_succ (by omega), by omega, rfl, (h19.swap.grew d20.keep).mono fun _ h => h.elim, ?_⟩)⟩
      exact Keep.then (Keep.then (Keep.then k17 k18) k19) d20.keep
    · refine PC.ok (h16.create (k := ⟨#[110, 101, 119]⟩)) ?_
      rintro _ w17 ⟨rfl, h17, -⟩
      refine ⟨_, rfl, PIf.tt ?_ (PC.ok known fun v w' ⟨hv, hk⟩ => ⟨true, hv, Ok.mk ⟨rfl, h17.gr.grew hk⟩⟩)⟩
      unfold DiskV.create
      rw [Calm.op ⟨hD12, hDF⟩]
      split
      · split
        · rfl
        · split <;> rfl
      · rfl
end Go.Proofs.Yticehdfebghloaa
