/- VdiskKnown: its walk -/
import Derived.Test.YticehdfebghloaaVdPlain
import Derived.Laws.MakeOwn
import Derived.Laws.BytesArg
namespace Go.Proofs.Yticehdfebghloaa
open Go.Lift
set_option linter.unusedVariables false
set_option maxRecDepth 20000

theorem new_no {n : Int} {w : World} (h : n < 64 ∨ n > 262144) : Calls Try.prog F_vdisk_New #[.int .i64 n] w (Ok fun v w' => v = .tuple #[.pointer none, .int .i64 1] ∧ w = w') := by
  refine Calls.ok vdisk_New fun v w' hv => ?_
  rw [if_pos h] at hv
  exact ⟨hv.1, hv.2.symm⟩

theorem create_bad {D : DiskV} (h : Calm D) {k : ByteArray} (hk : isNameV k = false) : D.create k = (1, D) := by
  unfold DiskV.create
  rw [h.op, if_neg (by simp [hk])]

def nm (i : Nat) : ByteArray := ⟨#[UInt8.ofNat (48 + i / 10), UInt8.ofNat (48 + i % 10)]⟩
def nZ : ByteArray := ⟨#[122]⟩
def emptyF : FileV := ⟨[], 0, false⟩
def manyD (j : Nat) : DiskV := ⟨64, (nZ, emptyF) :: (List.range j).map fun i => (nm i, emptyF), false, 0, false⟩

theorem nm_name : ∀ i, i < 63 → isNameV (nm i) = true := by
  have h : (List.range 63).all (fun i => isNameV (nm i)) = true := by decide +kernel
  intro i hi
  exact List.all_eq_true.1 h i (List.mem_range.2 hi)
theorem nm_new : ∀ j, j < 63 → aget (manyD j).files (nm j) = none := by
  have h : (List.range 63).all (fun j => (aget (manyD j).files (nm j)).isNone) = true := by decide +kernel
  intro j hj
  have := List.all_eq_true.1 h j (List.mem_range.2 hj)
  simpa using this
theorem aput_new {β : Type} {l : List (ByteArray × β)} {k : ByteArray} {v : β} (h : aget l k = none) : aput l k v = l ++ [(k, v)] := by
  induction l with
  | nil => rfl
  | cons p l ih =>
    obtain ⟨x, u⟩ := p
    simp only [aget] at h
    split at h
    · cases h
    · rename_i hk
      unfold aput
      rw [if_neg hk, ih h]; rfl
theorem many_step {j : Nat} (hj : j < 63) : (manyD j).create (nm j) = (0, manyD (j + 1)) := by
  unfold DiskV.create
  rw [Calm.op (D := manyD j) ⟨rfl, rfl⟩, if_pos (nm_name j hj), nm_new j hj]
  have hl : (manyD j).files.length = j + 1 := by simp [manyD]
  rw [if_neg (by simp), if_neg (by omega)]
  unfold DiskV.setF
  rw [aput_new (nm_new j hj)]
  simp [manyD, List.range_succ, emptyF]

/-- what two bytes read as -/
theorem conv_two {P : Program} {src e dst : TypeId} (hs : P.underlying src = some (.slice e)) (he : P.underlying e = some (.int .u8)) (hd : P.underlying dst = some .string) {w : World} {g : Nat} {f : Nat × Nat} {T : TypeId} {x y : Int} (hg : w.heap[g]? = some (.cells #[.int .u8 x, .int .u8 y] T f)) {κ ε : Value → World → Prop}
    (h : κ (.string ⟨#[UInt8.ofNat x.toNat, UInt8.ofNat y.toNat]⟩) w) : PRun P (convert src dst (.slice (some ⟨g, 0, none⟩) 2 2)) w κ ε := by
  have := run_convert_bytes_arg (w := w) src e hs he g 0 2 2 [x, y] rfl (fun i hi => by
    rcases i with _ | _ | i
    · exact cell_at hg rfl
    · exact cell_at hg rfl
    · omega) dst hd
  exact PRun.mk this h

theorem VdiskKnown {w : World} : Calls Try.prog F_law19_VdiskKnown #[] w (Ok (tru w)) := by
  refine L_law19_VdiskKnown (PC.ok (new_ok (Keep.refl w) (by omega) (by omega)) ?_)
  rintro _ w1 ⟨p, rfl, h1, -⟩
  replace h1 : NDisk w w1 p ⟨64, [], false, 0, false⟩ no := h1.mono fun _ h => h.elim
  refine ⟨_, _, rfl, PC.ok (new_no (by omega)) ?_⟩
  rintro _ _ ⟨rfl, rfl⟩
  refine ⟨_, _, rfl, PC.ok (new_no (by omega)) ?_⟩
  rintro _ _ ⟨rfl, rfl⟩
  refine ⟨_, _, rfl, PIf.ff rfl (eq_nil_ptr uD ⟨_, rfl, PIf.ff rfl (PIf.ff rfl (PIf.ff rfl (PA.mk fun w2 k2 s2 g2 => ?_)))⟩)⟩
  let bad : List ByteArray := [⟨#[]⟩, ⟨#[65]⟩, ⟨#[97, 32, 98]⟩, ⟨#[97, 47, 98]⟩, ⟨#[97, 98, 99, 100, 101, 102, 103, 104, 105, 106, 107, 108, 109, 110, 111, 112, 113]⟩, ⟨#[255]⟩, ⟨#[0]⟩, ⟨#[45]⟩]
  have hbad : ∀ b ∈ bad, isNameV b = false := by decide +kernel
  have hrow : Row cStr 16 w2 (· = w1.heap.size) (some ⟨w1.heap.size, 0, none⟩) 8 bad := Row.lit g2 bad rfl (fun _ _ => trivial) (by unfold Big; simp [bad])
  have h2 := h1.add k2 (Y := (· = w1.heap.size)) fun b hb => ⟨by omega, by omega⟩
  generalize hX : (fun b => no b ∨ b = w1.heap.size) = X at h2
  have hXe : ∀ b, b = w1.heap.size → X b := fun b hb => by rw [← hX]; exact .inr hb
  refine ⟨fun m i w' => ∃ j : Nat, i = j ∧ j ≤ 8 ∧ m = 8 - j ∧ NDisk w w' p ⟨64, [], false, 0, false⟩ X ∧ Row cStr 16 w' (· = w1.heap.size) (some ⟨w1.heap.size, 0, none⟩) 8 bad, ⟨_, 0, rfl, by omega, rfl, h2, hrow⟩, ?_⟩
  rintro m i B w3 ⟨j, rfl, hj, rfl, h3, hr3⟩
  refine PIf.dec (fun hlt => ?_) (fun _ => ?_)
  · obtain ⟨b, off, x, hb, hx, _, hc⟩ := hr3.at1 (i := j) (by omega)
    refine ⟨b, off, hb, by omega, hlt, x, hc, PC.ok h3.create ?_⟩
    rintro _ w4 ⟨rfl, h4, k4⟩
    have e := create_bad (D := ⟨64, [], false, 0, false⟩) ⟨rfl, rfl⟩ (hbad x (List.mem_of_getElem? hx))
    rw [e] at h4 ⊢
    exact ⟨_, rfl, PIf.ff rfl ⟨8 - (j + 1), by omega, j + 1, wrap_succ (by omega), by omega, rfl, h4, hr3.keep k4 fun b hb hn => hn (hXe b hb)⟩⟩
  · replace h3 := h3.mono (Y := no) fun _ h => h.elim
    have eZ : (DiskV.mk 64 [] false 0 false).create nZ = (0, manyD 0) := by decide +kernel
    refine PC.ok (h3.create (k := nZ)) ?_
    rintro _ w4 ⟨rfl, h4, -⟩
    rw [eZ] at h4 ⊢
    refine ⟨_, rfl, PIf.ff rfl (PC.ok (h4.rename (k := nZ) (t := ⟨#[90]⟩)) ?_)⟩
    rintro _ w5 ⟨rfl, h5, -⟩
    have e5 : (manyD 0).rename nZ ⟨#[90]⟩ = (1, manyD 0) := by decide +kernel
    rw [e5] at h5 ⊢
    refine ⟨_, rfl, PIf.ff rfl (PC.ok (h5.rename (k := ⟨#[121]⟩) (t := ⟨#[90]⟩)) ?_)⟩
    rintro _ w6 ⟨rfl, h6, -⟩
    have e6 : (manyD 0).rename ⟨#[121]⟩ ⟨#[90]⟩ = (14, manyD 0) := by decide +kernel
    rw [e6] at h6 ⊢
    refine ⟨_, rfl, PIf.ff rfl (PC.ok (h6.create (k := nZ)) ?_)⟩
    rintro _ w7 ⟨rfl, h7, -⟩
    have e7 : (manyD 0).create nZ = (16, manyD 0) := by decide +kernel
    rw [e7] at h7 ⊢
    refine ⟨_, rfl, PIf.ff rfl (PC.ok (h7.delete (k := ⟨#[121]⟩)) ?_)⟩
    rintro _ w8 ⟨rfl, h8, -⟩
    have e8 : (manyD 0).delete ⟨#[121]⟩ = (14, manyD 0) := by decide +kernel
    rw [e8] at h8 ⊢
    refine ⟨_, rfl, PIf.ff rfl (PC.ok (h8.sync (k := ⟨#[121]⟩)) ?_)⟩
    rintro _ w9 ⟨rfl, h9, -⟩
    have e9 : (manyD 0).sync ⟨#[121]⟩ = (14, manyD 0) := by decide +kernel
    rw [e9] at h9 ⊢
    refine ⟨_, rfl, PIf.ff rfl (PC.ok (h9.cutF (k := ⟨#[121]⟩) (n := 0)) ?_)⟩
    rintro _ w10 ⟨rfl, h10, -⟩
    have e10 : (manyD 0).cutF ⟨#[121]⟩ 0 = (14, manyD 0) := by decide +kernel
    rw [e10] at h10 ⊢
    refine ⟨_, rfl, PIf.ff rfl (PC.ok (h10.appendNil (k := ⟨#[121]⟩)) ?_)⟩
    rintro _ w11 ⟨rfl, h11, -⟩
    have e11 : (manyD 0).append ⟨#[121]⟩ [] = (14, manyD 0) := by decide +kernel
    rw [e11] at h11 ⊢
    refine ⟨_, rfl, PIf.ff rfl ?_⟩
    refine makeU8 slU8 (by kernel_rfl) (l := 65) (c := 65) (by omega) (by unfold Big; omega) fun w12 ho12 k12 s12 => ⟨_, _, _, rfl, ?_⟩
    have h12 := h11.add k12 (Y := (· = w11.heap.size)) fun b hb => ⟨by omega, by omega⟩
    refine PC.ok (h12.append (k := nZ) (lst_bytes ho12 (by simp)) (fun h => by cases h) fun b hb => .inr (.inr hb)) ?_
    rintro _ w13 ⟨rfl, h13, -⟩
    have e13 : (manyD 0).append nZ (List.replicate 65 0) = (12, manyD 0) := by decide +kernel
    rw [e13] at h13 ⊢
    replace h13 : NDisk w w13 p (manyD 0) no := h13.mono fun _ h => h.elim
    refine ⟨_, rfl, PIf.ff rfl ?_⟩
    refine ⟨fun m i w' => ∃ j : Nat, i = j ∧ j ≤ 63 ∧ m = 63 - j ∧ NDisk w w' p (manyD j) no, ⟨_, 0, rfl, by omega, rfl, h13⟩, ?_⟩
    rintro m i B2 w14 ⟨j, rfl, hj, rfl, h14⟩
    refine PIf.dec (fun hlt => PA.mk fun w15 k15 s15 g15 => ?_) (fun _ => ?_)
    · refine conv_two Try.underlying33 Try.underlying5 Try.underlying9 g15 ⟨_, rfl, ?_⟩
      have e15 : (⟨#[UInt8.ofNat (IntKind.wrap .u8 (IntKind.wrap .i64 (48 + (IntKind.wrap .i64 (Int.tdiv (j : Int) 10))))).toNat, UInt8.ofNat (IntKind.wrap .u8 (IntKind.wrap .i64 (48 + (Int.tmod (j : Int) 10)))).toNat]⟩ : ByteArray) = nm j := by
        have h : (List.range 63).all (fun j => ((⟨#[UInt8.ofNat (IntKind.wrap .u8 (IntKind.wrap .i64 (48 + (IntKind.wrap .i64 (Int.tdiv (j : Int) 10))))).toNat, UInt8.ofNat (IntKind.wrap .u8 (IntKind.wrap .i64 (48 + (Int.tmod (j : Int) 10)))).toNat]⟩ : ByteArray) == nm j)) = true := by decide +kernel
        exact eq_of_beq (List.all_eq_true.1 h j (List.mem_range.2 (by omega)))
      rw [e15]
      refine PC.ok ((h14.grew k15).create (k := nm j)) ?_
      rintro _ w16 ⟨rfl, h16, -⟩
      rw [many_step (by omega)] at h16 ⊢
      exact ⟨_, rfl, PIf.ff rfl ⟨63 - (j + 1), by omega, j + 1, wrap_succ (by omega), by omega, rfl, h16⟩⟩
    · obtain rfl : j = 63 := by omega
      have e1 : (manyD 63).create ⟨#[109, 111, 114, 101]⟩ = (12, manyD 63) := by decide +kernel
      refine PC.ok (h14.create (k := ⟨#[109, 111, 114, 101]⟩)) ?_
      rintro _ w15 ⟨rfl, h15, -⟩
      rw [e1] at h15 ⊢
      have e2 : ((manyD 63).rename nZ nZ).1 = 0 := by decide +kernel
      refine ⟨_, rfl, PIf.ff rfl (PC.ok (h15.rename (k := nZ) (t := nZ)) ?_)⟩
      rintro _ w16 ⟨rfl, h16, -⟩
      refine ⟨_, rfl, PIf.ff (by show (((manyD 63).rename nZ nZ).1 != 0) = false; rw [e2]; rfl) (PC.ok (h16.rename (k := nZ) (t := nm 0)) ?_)⟩
      rintro _ w17 ⟨rfl, h17, -⟩
      have e3 : (((manyD 63).rename nZ nZ).2.rename nZ (nm 0)).1 = 0 := by decide +kernel
      refine ⟨_, rfl, PIf.ff (by show (((((manyD 63).rename nZ nZ).2.rename nZ (nm 0)).1 != 0)) = false; rw [e3]; rfl) (PC.ok (h17.create (k := ⟨#[109, 111, 114, 101]⟩)) ?_)⟩
      rintro _ w18 ⟨rfl, h18, -⟩
      have e4 : ((((manyD 63).rename nZ nZ).2.rename nZ (nm 0)).2.create ⟨#[109, 111, 114, 101]⟩).1 = 0 := by decide +kernel
      refine ⟨_, rfl, PIf.ff (by show ((((((manyD 63).rename nZ nZ).2.rename nZ (nm 0)).2.create ⟨#[109, 111, 114, 101]⟩).1 != 0)) = false; rw [e4]; rfl) ?_⟩
      have e5 : ((((manyD 63).rename nZ nZ).2.rename nZ (nm 0)).2.create ⟨#[109, 111, 114, 101]⟩).2.files.length = 64 := by decide +kernel
      have e6 : (((((manyD 63).rename nZ nZ).2.rename nZ (nm 0)).2.create ⟨#[109, 111, 114, 101]⟩).2.crash 9223372036854775807).files.map (·.1) = [nm 0] := by decide +kernel
      change NDisk w w18 p ((((manyD 63).rename nZ nZ).2.rename nZ (nm 0)).2.create ⟨#[109, 111, 114, 101]⟩).2 no at h18
      generalize ((((manyD 63).rename nZ nZ).2.rename nZ (nm 0)).2.create ⟨#[109, 111, 114, 101]⟩).2 = DD at h18 e5 e6
      refine PC.ok h18.list ?_
      rintro _ w19 ⟨a19, n19, c19, F19, rfl, ho19, hF19, h19, k19⟩
      have hn19 : n19 = 64 := by rw [ho19.len (by decide), list_length, e5]
      refine ⟨_, _, _, rfl, PIf.ff (by rw [hn19]; rfl) (PC.ok (h19.crash (by unfold I64; omega)) ?_)⟩
      rintro _ w20 ⟨rfl, h20, -⟩
      have e7 : (DD.crash 9223372036854775807).list = [nm 0] := by unfold DiskV.list; rw [e6]; simp [sortS]
      generalize DD.crash 9223372036854775807 = D2 at h20 e7
      refine ⟨rfl, PC.ok h20.list ?_⟩
      rintro _ w21 ⟨a21, n21, c21, F21, rfl, ho21, hF21, h21, k21⟩
      have hn21 : n21 = 1 := by rw [ho21.len (by decide), e7]; rfl
      refine ⟨_, _, _, rfl, PIf.tt (by rw [hn21]; rfl) (PC.ok h21.list ?_)⟩
      rintro _ w22 ⟨a22, n22, c22, F22, rfl, ho22, hF22, h22, k22⟩
      have hn22 : n22 = 1 := by rw [ho22.len (by decide), e7]; rfl
      rw [e7] at ho22
      obtain ⟨b, off, x, hb, hx, _, hc⟩ := (ho22.row (bytes := 16) (by decide) (by unfold Big; simp)).at1 (i := 0) (by omega)
      have hx0 : x = nm 0 := by simpa using hx.symm
      refine ⟨_, _, _, rfl, b, off, hb, by omega, by omega, x, hc, PIf.tt (by rw [hx0]; decide +kernel) (PC.ok known fun v w' ⟨hv, hk⟩ => ⟨true, hv, Ok.mk ⟨rfl, h22.gr.grew hk⟩⟩)⟩
end Go.Proofs.Yticehdfebghloaa
