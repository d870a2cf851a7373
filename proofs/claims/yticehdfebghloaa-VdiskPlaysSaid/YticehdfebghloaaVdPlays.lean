/- VdiskPlays: the disk beside the document's: its walk -/
import Derived.Test.YticehdfebghloaaRefD4
import Derived.Test.YticehdfebghloaaVdFuse
namespace Go.Proofs.Yticehdfebghloaa
open Go.Lift
set_option linter.unusedVariables false
set_option maxRecDepth 20000

theorem uR : Try.prog.underlying 29 = some (.pointer 64) := by kernel_rfl

def refT (p : Nat) (D : DiskV) : Thing := ⟨fun w F => RefAt w p F D, fun h hk hd => h.keep hk hd, fun h => h.dom⟩

theorem rdid_int {w w0 : World} {p : Nat} {F : Nat → Prop} {r : Int × DiskV} (v : Value) (w' : World) (hk : Grew w0 w) (h : RDid w p F r v w') : ∃ n : Int, v = .int .i64 n ∧ Ok (RDid w0 p F r) (.returned (.int .i64 n)) w' := by
  obtain ⟨F', rfl, hD, hev⟩ := h
  exact ⟨_, rfl, Ok.mk ⟨F', rfl, hD, (Evo.mk hk.keep fun _ h => .inl h : Evo F w0 F w).trans hev⟩⟩

theorem law_Said {w : World} {p : Nat} {F Db : Nat → Prop} {D : DiskV} {x : ActV} {a : Option Addr} {n c : Nat} (h : RefAt w p F D) (hok : D.Ok) (hn : I64 x.n) (hs1 : x.name.size ≤ 100) (hs2 : x.to.size ≤ 100) (hb : Row cU8 1 w Db a n x.b) (hDb : ∀ b, Db b → b < w.heap.size ∧ ¬ F b) :
    Calls Try.prog F_law19_Said #[.pointer (some ⟨p, 0, none⟩), .agg #[.int .i64 x.kind, .int .i64 x.n, .string x.name, .string x.to, .slice a n c]] w (Ok (RDid w p F (D.does x))) := by
  refine L_law19_Said (PA.mk fun w1 k1 s1 g1 => ⟨_, cell_at g1 rfl, PC.ok (kit_Pick (by unfold I64; omega)) ?_⟩)
  rintro _ _ ⟨rfl, rfl⟩
  have h1 := h.grew k1
  have hf := hok.fit
  have h0 := hok.left0
  have hR := hok.leftR
  have fin : ∀ {v w'} {r : Int × DiskV}, RDid w1 p F r v w' → D.does x = r → ∃ t : Int, v = .int .i64 t ∧ Ok (RDid w p F (D.does x)) (.returned (.int .i64 t)) w' := fun hd he => by
    rw [he]; exact rdid_int _ _ k1 hd
  refine ⟨_, rfl, PIf.eqI (fun h0' => ⟨_, cell_at g1 rfl, PC.ok (ref_Create (by omega) h1 hf h0 hR) fun v w' hd => fin hd (by unfold DiskV.does; rw [if_pos h0'])⟩) (fun h0' => ?_)⟩
  refine ⟨fun b w' => b = decide (pick x.kind 10 = 1 ∨ pick x.kind 10 = 2) ∧ w' = w1, PIf.eqI (fun h1 => ⟨by simp [h1], rfl⟩) (fun h1 => ⟨by by_cases h2 : pick x.kind 10 = 2 <;> simp [h1, h2], rfl⟩), ?_⟩
  rintro _ B _ ⟨rfl, rfl⟩
  refine PIf.dec (fun h12 => ?_) (fun h12 => ?_)
  · refine ⟨_, cell_at g1 rfl, a, n, c, cell_at g1 rfl, PC.ok (ref_Append h1 hf h0 hR (hb.grew k1) fun b hb => ⟨by have := (hDb b hb).1; omega, (hDb b hb).2⟩) fun v w' hd => fin hd (by unfold DiskV.does; rw [if_neg h0', if_pos h12])⟩
  · have e12 : D.does x = (if pick x.kind 10 = 3 then D.sync x.name
      else if pick x.kind 10 = 4 then D.rename x.name x.to
      else if pick x.kind 10 = 5 then D.delete x.name
      else if pick x.kind 10 = 6 then D.cutF x.name x.n
      else if pick x.kind 10 = 7 then (0, D.crash x.n)
      else if pick x.kind 10 = 8 then (0, D.fuse x.n)
      else ((D.read x.name).2, D)) := by unfold DiskV.does; rw [if_neg h0', if_neg h12]
    refine PIf.eqI (fun h3 => ⟨_, cell_at g1 rfl, PC.ok (ref_Sync h1 hf h0 hR) fun v w' hd => fin hd (by rw [e12, if_pos h3])⟩) (fun h3 => ?_)
    refine PIf.eqI (fun h4 => ⟨_, cell_at g1 rfl, _, cell_at g1 rfl, PC.ok (ref_Rename (by omega) h1 hf h0 hR) fun v w' hd => fin hd (by rw [e12, if_neg h3, if_pos h4])⟩) (fun h4 => ?_)
    refine PIf.eqI (fun h5 => ⟨_, cell_at g1 rfl, PC.ok (ref_Delete h1 hf h0 hR) fun v w' hd => fin hd (by rw [e12, if_neg h3, if_neg h4, if_pos h5])⟩) (fun h5 => ?_)
    refine PIf.eqI (fun h6 => ⟨_, cell_at g1 rfl, _, cell_at g1 rfl, PC.ok (ref_Cut h1 hf h0 hR) fun v w' hd => fin hd (by rw [e12, if_neg h3, if_neg h4, if_neg h5, if_pos h6])⟩) (fun h6 => ?_)
    refine PIf.eqI (fun h7 => ⟨_, cell_at g1 rfl, PC.ok (ref_Crash hn h1 hf) ?_⟩) (fun h7 => ?_)
    · rintro v w' ⟨F', rfl, hD, hev⟩
      have e : D.does x = (0, D.crash x.n) := by rw [e12, if_neg h3, if_neg h4, if_neg h5, if_neg h6, if_pos h7]
      rw [e]
      exact ⟨rfl, Ok.mk ⟨F', rfl, hD, (Evo.mk k1.keep fun _ h => .inl h : Evo F w F _).trans hev⟩⟩
    refine PIf.eqI (fun h8 => ⟨_, cell_at g1 rfl, PC.ok (ref_Fuse h1) ?_⟩) (fun h8 => ?_)
    · rintro v w' ⟨rfl, hD, hk⟩
      have e : D.does x = (0, D.fuse x.n) := by rw [e12, if_neg h3, if_neg h4, if_neg h5, if_neg h6, if_neg h7, if_pos h8]
      rw [e]
      exact ⟨rfl, Ok.mk ⟨F, rfl, hD, (Grew.keep k1).then hk, fun _ h => .inl h⟩⟩
    refine PIf.eqI (fun h9 => ⟨_, cell_at g1 rfl, PC.ok (ref_Read h1 hf) ?_⟩) (fun h9 => ?_)
    · rintro v w' ⟨u, rfl, a9, n9, c9, F9, rfl, ho9, hk9, hF9⟩
      have e : D.does x = ((D.read x.name).2, D) := by rw [e12, if_neg h3, if_neg h4, if_neg h5, if_neg h6, if_neg h7, if_neg h8]
      rw [e]
      exact ⟨_, _, _, _, rfl, Ok.mk ⟨F, rfl, h1.grew hk9, Grew.keep (k1.grew hk9), fun _ h => .inl h⟩⟩
    · exfalso
      have := pick_range (k := x.kind) (n := 10) (by omega)
      omega

section
variable {w0 w w' : World} {p q : Nat} {D E : DiskV} {B : Thing} {X : Nat → Prop}
end
end Go.Proofs.Yticehdfebghloaa
namespace Go.Lift
open Go.Proofs Go.Proofs.Yticehdfebghloaa
set_option linter.unusedVariables false
set_option maxRecDepth 20000
section
variable {w0 w w' : World} {p q : Nat} {D E : DiskV} {B : Thing} {X : Nat → Prop}
theorem Duo.said {Db : Nat → Prop} {x : ActV} {a : Option Addr} {n c : Nat} (h : Duo w0 w (refT q D) B X) (hok : D.Ok) (hn : I64 x.n) (hs1 : x.name.size ≤ 100) (hs2 : x.to.size ≤ 100) (hb : Row cU8 1 w Db a n x.b) (hDb : ∀ b, Db b → X b) :
    Calls Try.prog F_law19_Said #[.pointer (some ⟨q, 0, none⟩), .agg #[.int .i64 x.kind, .int .i64 x.n, .string x.name, .string x.to, .slice a n c]] w (Ok fun v w' => v = .int .i64 (D.does x).1 ∧ Duo w0 w' (refT q (D.does x).2) B X ∧ Keep (fun b => ¬ X b) w w') := by
  have hX : ∀ b, X b → b < w.heap.size := by obtain ⟨F, G, h1, h2, h3, h4, h5, h6⟩ := h; exact h6
  exact h.call (A' := refT q (D.does x).2) (Q := fun v _ => v = .int .i64 (D.does x).1) fun F hD hF => Calls.ok (law_Said (Db := Db) hD hok hn hs1 hs2 hb fun b hb => ⟨hX b (hDb b hb), fun hf => (hF b hf).2 (hDb b hb)⟩) fun v w' ⟨F', h1, h2, h3⟩ => ⟨F', h1, h2, h3⟩
theorem Duo.rcrash {n : Int} (h : Duo w0 w (refT q D) B X) (hok : D.Ok) (hn : I64 n) : Calls Try.prog F_ref19_Disk_Crash #[.pointer (some ⟨q, 0, none⟩), .int .i64 n] w (Ok fun v w' => v = .tuple #[] ∧ Duo w0 w' (refT q (D.crash n)) B X ∧ Keep (fun b => ¬ X b) w w') :=
  h.call (A' := refT q (D.crash n)) (Q := fun v _ => v = .tuple #[]) fun F hD _ => Calls.ok (ref_Crash hn hD hok.fit) fun v w' ⟨F', h1, h2, h3⟩ => ⟨F', h1, h2, h3⟩
theorem Duo.rdead (h : Duo w0 w (refT q D) B X) : Calls Try.prog F_ref19_Disk_Dead #[.pointer (some ⟨q, 0, none⟩)] w (Ok fun v w' => v = .bool D.dead ∧ w = w') := by
  obtain ⟨F, G, h1, _⟩ := h; exact ref_Dead h1
theorem Duo.rroom (h : Duo w0 w (refT q D) B X) (hok : D.Ok) : Calls Try.prog F_ref19_Disk_Room #[.pointer (some ⟨q, 0, none⟩)] w (Ok fun v w' => v = .int .i64 D.room ∧ w = w') := by
  obtain ⟨F, G, h1, _⟩ := h; exact ref_Room h1 hok.fit
theorem Duo.rlist (h : Duo w0 w (refT q D) B X) (hok : D.Ok) : Calls Try.prog F_ref19_Disk_List #[.pointer (some ⟨q, 0, none⟩)] w (Ok fun v w' => ∃ a n c F, v = .slice a n c ∧ Lst cStr 9 F w' a n c D.list ∧ (∀ b, F b → w.heap.size ≤ b) ∧ Duo w0 w' (refT q D) B (fun b => X b ∨ F b) ∧ Grew w w') := by
  have h0 := h
  obtain ⟨F, G, h1, _⟩ := h
  refine Calls.ok (ref_List h1 hok.fit) ?_
  rintro v w' ⟨a, n, c, G, rfl, ho, hk, hG⟩
  exact ⟨a, n, c, G, rfl, ho, hG, h0.add hk fun b hb => ⟨hG b hb, ho.dom b hb⟩, hk⟩
theorem Duo.rread {k : ByteArray} (h : Duo w0 w (refT q D) B X) (hok : D.Ok) : Calls Try.prog F_ref19_Disk_Read #[.pointer (some ⟨q, 0, none⟩), .string k] w (Ok fun v w' => ∃ a n c F, v = .tuple #[.slice a n c, .int .i64 (D.read k).2] ∧ Lst cU8 5 F w' a n c (D.read k).1 ∧ (∀ b, F b → w.heap.size ≤ b) ∧ Duo w0 w' (refT q D) B (fun b => X b ∨ F b) ∧ Grew w w') := by
  have h0 := h
  obtain ⟨F, G, h1, _⟩ := h
  refine Calls.ok (ref_Read h1 hok.fit) ?_
  rintro v w' ⟨u, rfl, a, n, c, G, rfl, ho, hk, hG⟩
  exact ⟨a, n, c, G, rfl, ho, hG, h0.add hk fun b hb => ⟨hG b hb, ho.dom b hb⟩, hk⟩
end
end Go.Lift
namespace Go.Proofs.Yticehdfebghloaa
open Go.Lift
set_option linter.unusedVariables false
set_option maxRecDepth 20000
section
variable {w0 w w' : World} {p q : Nat} {D E : DiskV} {B : Thing} {X : Nat → Prop}
theorem law_Same (h : Duo w0 w (diskT p D) (refT q D) X) : Calls Try.prog F_law19_Same #[.pointer (some ⟨p, 0, none⟩), .pointer (some ⟨q, 0, none⟩)] w (Ok fun v w' => v = .bool true ∧ Duo w0 w' (diskT p D) (refT q D) X ∧ Keep (fun b => ¬ b < w.heap.size) w w') := by
  have hok := h.ok
  have hX : ∀ b, X b → b < w.heap.size := by obtain ⟨F, G, h1, h2, h3, h4, h5, h6⟩ := h; exact h6
  have hDl : D.list.length ≤ 64 := by rw [list_length]; exact hok.many
  refine L_law19_Same (PC.ok h.list ?_)
  rintro _ w1 ⟨a1, n1, c1, F1, rfl, ho1, hF1, h1, k1⟩
  refine ⟨_, _, _, rfl, PC.ok (h1.swap.rlist hok) ?_⟩
  rintro _ w2 ⟨a2, n2, c2, F2, rfl, ho2, hF2, h2, k2⟩
  refine ⟨_, _, _, rfl, PC.ok (kit_SameTexts ((ho1.grew k2).row (by decide) (by unfold Big; omega)) (ho2.row (by decide) (by unfold Big; omega))) ?_⟩
  rintro _ w3 ⟨rfl, d3⟩
  have h3 := h2.swap.grew d3.keep
  refine ⟨_, rfl, PIf.not (PIf.tt (by simp) (PC.ok h3.room ?_))⟩
  rintro _ w4 ⟨rfl, h4, k4⟩
  refine ⟨_, rfl, PC.ok (h4.swap.rroom hok) ?_⟩
  rintro _ _ ⟨rfl, rfl⟩
  refine ⟨_, rfl, PIf.ff (by simp) (PC.ok h4.dead ?_)⟩
  rintro _ _ ⟨rfl, rfl⟩
  refine ⟨_, rfl, PC.ok h4.swap.rdead ?_⟩
  rintro _ _ ⟨rfl, rfl⟩
  have hn1 : n1 = D.list.length := ho1.len (by decide)
  refine ⟨_, rfl, PIf.ff (by simp) ?_⟩
  have k14 : Grew w1 w4 := (k2.grew d3.keep).grew k4
  have hrow := (ho1.row (bytes := 16) (by decide) (by unfold Big; omega)).grew k14
  have s1 := k1.size
  have kw : Grew w w4 := k1.grew k14
  refine ⟨fun m i w' => ∃ j : Nat, i = j ∧ j ≤ n1 ∧ m = n1 - j ∧ Duo w0 w' (diskT p D) (refT q D) (fun b => X b ∨ F1 b) ∧ Row cStr 16 w' F1 a1 n1 D.list ∧ Keep (fun b => ¬ b < w.heap.size) w w', ⟨_, 0, rfl, Nat.zero_le _, rfl, h4.mono fun b hb => .inl hb, hrow, kw.keep⟩, ?_⟩
  rintro m i B w5 ⟨j, rfl, hj, rfl, h5, hr5, k5⟩
  refine PIf.dec (fun hlt => ?_) (fun hge => Ok.mk ⟨rfl, h5.mono fun b hb => .inl hb, k5⟩)
  obtain ⟨b1, o1, y, rfl, hy, _, hcy⟩ := hr5.at1 (i := j) (by omega)
  have hrl := read_len hok y
  refine ⟨b1, o1, rfl, by omega, by omega, y, hcy, PC.ok h5.read ?_⟩
  rintro _ w6 ⟨a6, n6, c6, F6, rfl, ho6, hF6, h6, k6⟩
  have hr6 := hr5.grew k6
  obtain ⟨b2, o2, y', hb2, hy', _, hcy'⟩ := hr6.at1 (i := j) (by omega)
  rw [hy] at hy'; cases hy'
  refine ⟨_, _, _, _, rfl, b2, o2, hb2, by omega, by omega, y, hcy', PC.ok (h6.swap.rread hok) ?_⟩
  rintro _ w7 ⟨a7, n7, c7, F7, rfl, ho7, hF7, h7, k7⟩
  have ho67 := ho6.grew k7
  refine ⟨_, _, _, _, rfl, PIf.ff (by simp) (PC.ok (kit_SameBytes (lst_bytes ho67 (by omega)) (lst_bytes ho7 (by omega))) ?_)⟩
  rintro _ w8 ⟨rfl, d8⟩
  have hn6 : n6 = (D.read y).1.length := ho6.len (by decide)
  have hd5 : ∀ b, F1 b → b < w5.heap.size := by obtain ⟨F, G, g1, g2, g3, g4, g5, g6⟩ := h5; exact fun b hb => g6 b (.inr hb)
  have hg0 := h5.gr.size
  refine ⟨_, rfl, PIf.not (PIf.tt (by simp) (PC.ok (kit_SpoilBytes (ho67.grew d8.keep) (by unfold Big; omega)) ?_))⟩
  rintro _ w9 ⟨rfl, k9, s9⟩
  have h8 := h7.swap.grew d8.keep
  have h9 := h8.other (Y := F6) k9 (fun b hb => .inl (.inr hb)) (fun b hb => by have := hF6 b hb; omega)
  have s5 := k5.size
  refine ⟨rfl, n1 - (j + 1), by omega, j + 1, wrap_succ (by omega), by omega, rfl, h9.mono fun b hb => .inl (.inl hb), ?_, ?_⟩
  · exact ((hr6.grew k7).grew d8.keep).keep k9 fun b hb h => by have := hd5 b hb; have := hF6 b h; omega
  · exact (((k5.grew k6).grew k7).grew d8.keep).then (k9.mono fun b _ hb => by have := hF6 b hb; omega)
end

theorem VdiskPlays {a : Option Addr} {n c : Nat} {l : List ActV} {n0 : Int} {w : World} (hl : Row cAct 72 w (In w) a n l) :
    Calls Try.prog F_law19_VdiskPlays #[.int .i64 n0, .slice a n c] w (Ok (tru w)) := by
  have hn := hl.len
  refine L_law19_VdiskPlays (PC.ok (law_Long hl) ?_)
  rintro _ _ ⟨lb, rfl, rfl, hlong⟩
  refine ⟨_, rfl, PIf.mk (fun _ => known' (Keep.refl _)) fun hlb => PC.ok vdisk_New ?_⟩
  obtain ⟨hl100, hlx⟩ := hlong hlb
  intro v1 w1 hv1
  by_cases hsz : n0 < 64 ∨ n0 > 262144
  · rw [if_pos hsz] at hv1
    obtain ⟨rfl, rfl⟩ := hv1
    refine ⟨_, _, rfl, PC.ok ref_New ?_⟩
    intro v2 w2 hv2
    rw [if_pos hsz] at hv2
    obtain ⟨rfl, rfl⟩ := hv2
    refine ⟨_, _, rfl, PIf.ff rfl (eq_nil_ptr uD ⟨_, rfl, eq_nil_ptr uR ⟨_, rfl, PIf.ff rfl (PIf.tt rfl (PIf.tt rfl (known' (Keep.refl _))))⟩⟩)⟩
  · rw [if_neg hsz] at hv1
    obtain ⟨p, F1, rfl, hD1, k1, hF1⟩ := hv1
    refine ⟨_, _, rfl, PC.ok ref_New ?_⟩
    intro v2 w2 hv2
    rw [if_neg hsz] at hv2
    obtain ⟨q, F2, rfl, hD2, k2, hF2⟩ := hv2
    have hd : Duo w w2 (diskT p ⟨n0.toNat, [], false, 0, false⟩) (refT q ⟨n0.toNat, [], false, 0, false⟩) (fun b => b < w.heap.size) := Duo.of (A := diskT p ⟨n0.toNat, [], false, 0, false⟩) (B := refT q ⟨n0.toNat, [], false, 0, false⟩) (Keep.refl w) hD1 hF1 k1 hD2 hF2 k2
    refine ⟨_, _, rfl, PIf.ff rfl (eq_nil_ptr uD ⟨_, rfl, eq_nil_ptr uR ⟨_, rfl, PIf.ff rfl (PIf.ff rfl (eq_nil_ptr uD ⟨_, rfl, PIf.ff rfl ?_⟩))⟩⟩)⟩
    generalize (⟨n0.toNat, [], false, 0, false⟩ : DiskV) = D0 at hd
    refine ⟨fun m i w' => ∃ (j : Nat) (D : DiskV), i = j ∧ j ≤ n ∧ m = n - j ∧ Duo w w' (diskT p D) (refT q D) (fun b => b < w.heap.size), ⟨_, 0, D0, rfl, Nat.zero_le _, rfl, hd⟩, ?_⟩
    rintro m i B w3 ⟨j, D, rfl, hj, rfl, h3⟩
    refine PIf.dec (fun hlt => fun w4 hd4 => ?_) (fun hge => ?_)
    · have h4 := h3.grew hd4.keep
      obtain ⟨bb, off, x, es, rfl, hbs, hE, hx, hc, a1, n1, c1, rfl, hi1, hi2, hr1⟩ := (hl.grew h4.gr).at (i := (j : Int)) (by omega) (by omega)
      have hEb : bb < w.heap.size := hE
      obtain ⟨x1, x2, x3⟩ := hlx x (List.mem_of_getElem? hx)
      refine ⟨fun b => ¬ b < w.heap.size, bb, off, rfl, by omega, by omega, x.kind, x.n, x.name, x.to, a1, n1, c1, hc 0 (by decide), hc 1 (by decide), hc 2 (by decide), hc 3 (by decide), hc 4 (by decide), bb, off, rfl, by omega, by omega, fun hb => hb hEb, x.kind, x.n, x.name, x.to, a1, n1, c1, hc 0 (by decide), hc 1 (by decide), hc 2 (by decide), hc 3 (by decide), hc 4 (by decide), PC.ok (h4.does hi2 hr1) ?_⟩
      rintro _ w5 ⟨rfl, h5, k5⟩
      refine ⟨_, rfl, k5, PC.ok (h5.swap.said h4.ok hi2 x2 x3 (hr1.keep k5 fun b hb hnb => hnb hb) (fun b hb => hb)) ?_⟩
      rintro _ w6 ⟨rfl, h6, k6⟩
      refine ⟨_, rfl, k6, PIf.ff (by simp) (PC.ok (law_Same h6.swap) ?_)⟩
      rintro _ w7 ⟨rfl, h7, k7⟩
      have s6 := h6.gr.size
      refine ⟨_, rfl, k7.mono fun b _ hb => (by omega), PIf.not (PIf.tt rfl ⟨_, ?_, j + 1, _, wrap_succ (by omega), by omega, rfl, h7⟩)⟩
      omega
    · refine PC.ok (h3.crash (by unfold I64; omega)) ?_
      rintro _ w4 ⟨rfl, h4, k4⟩
      refine ⟨rfl, PC.ok (h4.swap.rcrash h3.ok (by unfold I64; omega)) ?_⟩
      rintro _ w5 ⟨rfl, h5, k5⟩
      refine ⟨rfl, PC.ok (law_Same h5.swap) ?_⟩
      rintro _ w6 ⟨rfl, h6, k6⟩
      exact ⟨_, rfl, PIf.tt rfl (PC.ok known fun v w' ⟨hv, hk⟩ => ⟨true, hv, Ok.mk ⟨rfl, h6.gr.grew hk⟩⟩)⟩
end Go.Proofs.Yticehdfebghloaa
