/- the document's answer for sessions, call by call -/
import Derived.Test.YtnfcddhabhbicaaRef26
namespace Go.Proofs.Ytnfcddhabhbicaa
open Go.Lift
set_option linter.unusedVariables false

def RefAt (w : World) (x : Nat) (F : Nat → Prop) (r : Int) (L : List PeerV) : Prop := ∃ la ln lc Ps, RefB w x F r la ln lc Ps ∧ Ps.map (·.1) = L

theorem RefAt.keep {S F : Nat → Prop} {w w' : World} {x : Nat} {r : Int} {L : List PeerV} (h : RefAt w x F r L) (hk : Keep S w w') (hS : ∀ b, F b → ¬ S b) : RefAt w' x F r L := by
  obtain ⟨la, ln, lc, Ps, h1, h2⟩ := h
  exact ⟨la, ln, lc, Ps, h1.keep hk hS, h2⟩
theorem RefAt.dom {F : Nat → Prop} {w : World} {x : Nat} {r : Int} {L : List PeerV} (h : RefAt w x F r L) : ∀ b, F b → b < w.heap.size := by
  obtain ⟨la, ln, lc, Ps, h1, h2⟩ := h
  exact h1.dom

/-- a peer's place, made if it was not, and turned by f -/
def upd (f : PeerV → PeerV) (peer : Int) : List PeerV → List PeerV
  | [] => [f (newP peer)]
  | p :: L => if p.no < peer then p :: upd f peer L else if p.no = peer then f p :: L else f (newP peer) :: p :: L

def getP (peer : Int) : List PeerV → PeerV
  | [] => newP peer
  | p :: L => if p.no < peer then getP peer L else if p.no = peer then p else newP peer

theorem posL_cons {p : PeerV} {L : List PeerV} {peer : Int} : posL (p :: L) peer = if p.no < peer then posL L peer + 1 else 0 := by
  unfold posL
  by_cases h : p.no < peer
  · rw [List.takeWhile_cons_of_pos (by simpa using h), if_pos h]; rfl
  · rw [List.takeWhile_cons_of_neg (by simpa using h), if_neg h]; rfl

/-- behind 'at': who stands there -/
theorem atL_get (peer : Int) : ∀ L : List PeerV, (atL L peer)[posL L peer]? = some (getP peer L) ∧ ∀ f : PeerV → PeerV, (atL L peer).set (posL L peer) (f (getP peer L)) = upd f peer L
  | [] => ⟨by simp [atL, insL, posL, getP], fun f => by simp [atL, insL, posL, upd, getP]⟩
  | q :: L => by
    obtain ⟨h1, h2⟩ := atL_get peer L
    by_cases hq : q.no < peer
    · have hp : posL (q :: L) peer = posL L peer + 1 := by rw [posL_cons, if_pos hq]
      have ha : atL (q :: L) peer = q :: atL L peer := by
        unfold atL
        rw [hp, List.getElem?_cons_succ]
        have hi : insL (q :: L) peer = q :: insL L peer := by unfold insL; rw [hp]; rfl
        split
        · split
          · rfl
          · exact hi
        · exact hi
      have hg : getP peer (q :: L) = getP peer L := by unfold getP; rw [if_pos hq]; cases L <;> rfl
      refine ⟨by rw [ha, hp, List.getElem?_cons_succ, hg]; exact h1, fun f => ?_⟩
      rw [ha, hp, List.set_cons_succ, hg, h2 f]
      unfold upd
      rw [if_pos hq]
      cases L <;> rfl
    · have hp : posL (q :: L) peer = 0 := by rw [posL_cons, if_neg hq]
      by_cases he : q.no = peer
      · have ha : atL (q :: L) peer = q :: L := by unfold atL; rw [hp]; simp [he]
        have hg : getP peer (q :: L) = q := by unfold getP; rw [if_neg hq, if_pos he]
        exact ⟨by rw [ha, hp, hg]; rfl, fun f => by rw [ha, hp, hg]; unfold upd; rw [if_neg hq, if_pos he]; rfl⟩
      · have ha : atL (q :: L) peer = newP peer :: q :: L := by unfold atL; rw [hp]; simp [he, insL, hp]
        have hg : getP peer (q :: L) = newP peer := by unfold getP; rw [if_neg hq, if_neg he]
        exact ⟨by rw [ha, hp, hg]; rfl, fun f => by rw [ha, hp, hg]; unfold upd; rw [if_neg hq, if_neg he]; rfl⟩

theorem ref_New {r : Int} {w : World} : Calls Try.prog F_ref26_New #[.int .i64 r] w (Ok fun v w' => ∃ x F, v = .pointer (some ⟨x, 0, none⟩) ∧ RefAt w' x F r [] ∧ Grew w w' ∧ ∀ b, F b → w.heap.size ≤ b) := by
  refine L_ref26_New (PA.mk fun w1 k1 s1 g1 => Ok.mk ⟨w.heap.size, fun b => b = w.heap.size, rfl, ⟨none, 0, 0, [], ⟨g1, Own.nil _ _ _, by simp, by simp [blk], rfl, fun b hb => by omega⟩, rfl⟩, k1, fun b hb => by omega⟩)

theorem ref_Clear {w : World} {x : Nat} {F : Nat → Prop} {r : Int} {L : List PeerV} (h : RefAt w x F r L) :
    Calls Try.prog F_ref26_Table_Clear #[.pointer (some ⟨x, 0, none⟩)] w (Ok fun v w' => v = .tuple #[] ∧ RefAt w' x F r [] ∧ Keep F w w') := by
  obtain ⟨la, ln, lc, Ps, h1, h2⟩ := h
  refine L_ref26_Table_Clear ⟨x, 0, rfl, PS.mk h1.head (by simp) fun w1 k1 s1 g1 => Ok.mk ⟨rfl, ⟨none, 0, 0, [], ⟨g1, Own.nil _ _ _, by simp, by simp [blk], h1.self, fun b hb => by rw [s1]; exact h1.dom b hb⟩, rfl⟩, k1.mono fun b _ hb => by subst hb; exact h1.self⟩⟩

theorem ref_Start {w : World} {x : Nat} {F : Nat → Prop} {r peer now : Int} {L : List PeerV} (h : RefAt w x F r L) (hl : L.length ≤ 1000) (hp : I64 peer) :
    Calls Try.prog F_ref26_Table_Start #[.pointer (some ⟨x, 0, none⟩), .int .i64 peer, .int .i64 now] w
      (Ok fun v w' => ∃ F', v = .tuple #[] ∧ RefAt w' x F' r (upd (fun p => { p with asked := now, opn := true }) peer L) ∧ Evo F w F' w') := by
  obtain ⟨la, ln, lc, Ps, h1, rfl⟩ := h
  refine L_ref26_Table_Start (PC.ok (ref_at h1 (by simpa using hl) hp) ?_)
  rintro _ w1 ⟨F', la', ln', lc', Ps', rfl, hR, hm, hE⟩
  obtain ⟨hget, hset⟩ := atL_get peer (Ps.map (·.1))
  generalize hi : posL (Ps.map (·.1)) peer = i at hget hset
  rw [← hm, List.getElem?_map] at hget
  obtain ⟨P, hP, hPg⟩ := Option.map_eq_some_iff.1 hget
  rw [← hPg] at hset
  have hlt : i < Ps'.length := (List.getElem?_eq_some_iff.1 hP).1
  have hln := hR.len
  obtain ⟨g, rfl⟩ := hR.addr hlt
  have rd : ∀ {w' : World} {Q : List (PeerV × Value)}, RefB w' x F' r (some ⟨g, 0, none⟩) ln' lc' Q → w'.cell? ⟨x, 0, none⟩ = some (.slice (some ⟨g, 0, none⟩) ln' lc') := fun h => cell_at (off := 0) h.head rfl
  have hgF := (hR.lab g rfl).1
  refine ⟨_, rfl, x, 0, rfl, _, _, _, rd hR, g, 0, rfl, by omega, by omega, hR.put (j := 2) (P' := (⟨P.1.no, P.1.asked, true, P.1.vec⟩, P.2)) hP (by decide) rfl (hR.vecs P (List.mem_of_getElem? hP)) fun w2 k2 h2 => ?_⟩
  have i2 := get_set_self (b := ((⟨P.1.no, P.1.asked, true, P.1.vec⟩, P.2) : PeerV × Value)) hP
  refine ⟨x, 0, rfl, _, _, _, rd h2, g, 0, rfl, by omega, by omega, h2.put (j := 1) (P' := (⟨P.1.no, now, true, P.1.vec⟩, P.2)) i2 (by decide) rfl (h2.vecs (⟨P.1.no, P.1.asked, true, P.1.vec⟩, P.2) (List.mem_of_getElem? i2)) fun w3 k3 h3 => ?_⟩
  rw [List.set_set] at h3
  refine Ok.mk ⟨F', rfl, ⟨_, _, _, _, h3, ?_⟩, hE.trans ⟨(k2.chain k3).mono fun b _ hb => by subst hb; exact hgF, fun b hb => .inl hb⟩⟩
  rw [List.map_set, hm, ← hset]

theorem RefB.more {w : World} {x : Nat} {F F' : Nat → Prop} {r : Int} {la : Option Addr} {ln lc : Nat} {Ps : List (PeerV × Value)} (h : RefB w x F r la ln lc Ps) (hF : ∀ b, F b → F' b) (hd : ∀ b, F' b → b < w.heap.size) : RefB w x F' r la ln lc Ps :=
  ⟨h.head, h.row, fun P hP => (h.vecs P hP).keep (Keep.refl (S := fun _ => False) w) (fun _ _ _ _ h => h) hF (fun _ _ h => h), fun b hb => ⟨hF b (h.lab b hb).1, (h.lab b hb).2⟩, hF _ h.self, hd⟩

def hearP (xs want : List Int) (p : PeerV) : PeerV := ⟨p.no, p.asked, p.opn && !covers (joinv p.vec xs) want, joinv p.vec xs⟩

theorem ref_Heard {w : World} {x : Nat} {F : Nat → Prop} {r peer : Int} {L : List PeerV} {a b : Option Addr} {n m c d : Nat} {xs want : List Int} (h : RefAt w x F r L) (hl : L.length ≤ 1000) (hp : I64 peer)
    (hx : Ints w a n xs) (hy : Ints w b m want) (hxF : xs ≠ [] → notIn F a) (hyF : want ≠ [] → notIn F b) :
    Calls Try.prog F_ref26_Table_Heard #[.pointer (some ⟨x, 0, none⟩), .int .i64 peer, .slice a n c, .slice b m d] w
      (Ok fun v w' => ∃ F', v = .bool ((getP peer L).opn && covers (joinv (getP peer L).vec xs) want) ∧ RefAt w' x F' r (upd (hearP xs want) peer L) ∧ Evo F w F' w') := by
  obtain ⟨la, ln, lc, Ps, h1, rfl⟩ := h
  refine L_ref26_Table_Heard (PC.ok (ref_at h1 (by simpa using hl) hp) ?_)
  rintro _ w1 ⟨F', la', ln', lc', Ps', rfl, hR, hm, hE⟩
  obtain ⟨hget, hset⟩ := atL_get peer (Ps.map (·.1))
  generalize hi : posL (Ps.map (·.1)) peer = i at hget hset
  rw [← hm, List.getElem?_map] at hget
  obtain ⟨P, hP, hPg⟩ := Option.map_eq_some_iff.1 hget
  rw [← hPg] at hset ⊢
  have hlt : i < Ps'.length := (List.getElem?_eq_some_iff.1 hP).1
  have hln := hR.len
  obtain ⟨g, rfl⟩ := hR.addr hlt
  have rd : ∀ {w' : World} {F : Nat → Prop} {Q : List (PeerV × Value)}, RefB w' x F r (some ⟨g, 0, none⟩) ln' lc' Q → w'.cell? ⟨x, 0, none⟩ = some (.slice (some ⟨g, 0, none⟩) ln' lc') := fun h => cell_at (off := 0) h.head rfl
  obtain ⟨hgF, hgx⟩ := hR.lab g rfl
  have hx1 := hx.keep0 hE.keep hxF
  have hy1 := hy.keep0 hE.keep hyF
  have hyg : want ≠ [] → notIn (· = g) b := fun hne p hp hpg => by
    cases want with
    | nil => exact hne rfl
    | cons z t =>
      obtain ⟨bb, o, hb, hbs, _⟩ := hy.cell 0 z rfl
      rw [hb] at hp; cases hp
      have hpg : bb = g := hpg
      subst hpg
      rcases hE.new _ hgF with h' | h'
      · exact hyF hne _ hb h'
      · omega
  refine ⟨_, rfl, ?_⟩
  rintro w2 hd2
  have hR2 := hR.grew hd2.keep
  have hvP := hR2.vecs P (List.mem_of_getElem? hP)
  have hvP' := hvP
  obtain ⟨va, vn, vc, e2, hvI, hvb⟩ := hvP'
  have c3 := hR2.cell (j := 3) hP rfl
  rw [e2] at c3
  refine ⟨(· = g), x, 0, rfl, fun e => hgx e.symm, _, _, _, rd hR2, x, 0, rfl, _, _, _, rd hR2, g, 0, rfl, by omega, by omega, va, vn, vc, c3, PC.ok (ref04_Join hvI (hx1.grew hd2.keep)) ?_⟩
  rintro _ w3 ⟨a3, n3, c3, rfl, ho3, hk3, hn3⟩
  have hl3 := own_len ho3
  have hb3 : n3 * 8 ≤ Big := by
    rw [hl3, joinv_length]
    have := hvI.big; have := hvI.len; have := hx.big; have := hx.len
    unfold Big at *; omega
  have hI3 : Ints w3 a3 n3 (joinv P.1.vec xs) := ho3.ints hb3 (joinv_I64 hvI.rng hx.rng)
  have hR3 : RefB w3 x (fun b => F' b ∨ some b = blk a3) r (some ⟨g, 0, none⟩) ln' lc' Ps' := (hR2.grew hk3).more (fun _ h => .inl h) fun b hb => by
    rcases hb with hb | hb
    · exact (hR2.grew hk3).dom b hb
    · exact ho3.lt hb.symm
  have hnew : ∀ b, blk a3 = some b → (F' b ∨ some b = blk a3) ∧ b ≠ x ∧ some b ≠ blk (some (⟨g, 0, none⟩ : Addr)) := fun b hb => by
    have h1 := hn3 b hb
    have h2 := hR2.dom _ hR2.self
    have h3 := hR2.dom _ hgF
    exact ⟨.inr hb.symm, by omega, fun e => by simp only [blk, Option.some.injEq] at e; omega⟩
  refine ⟨_, _, _, rfl, hk3.mono fun _ _ (h : False) => h.elim, g, 0, rfl, by omega, by omega, hR3.put (j := 3) (P' := (⟨P.1.no, P.1.asked, P.1.opn, joinv P.1.vec xs⟩, .slice a3 n3 c3)) hP (by decide) rfl ⟨a3, n3, c3, rfl, hI3, hnew⟩ fun w4 k4 h4 => ?_⟩
  have i4 := get_set_self (b := ((⟨P.1.no, P.1.asked, P.1.opn, joinv P.1.vec xs⟩, .slice a3 n3 c3) : PeerV × Value)) hP
  obtain ⟨va4, vn4, vc4, e4, hvI4, _⟩ := h4.vecs _ (List.mem_of_getElem? i4)
  cases e4
  have hy4 := ((hy1.grew hd2.keep).grew hk3).keep0 k4 hyg
  refine ⟨k4, x, 0, rfl, _, _, _, rd h4, g, 0, rfl, by omega, by omega, _, _, _, h4.cell (j := 3) i4 rfl, PC.ok (ref04_Cmp hvI4 hy4) ?_⟩
  rintro _ _ ⟨rfl, rfl⟩
  have hEvo : ∀ w5, Keep (· = g) w4 w5 → Evo F w (fun b => F' b ∨ some b = blk a3) w5 := fun w5 k5 => by
    refine ⟨?_, fun b hb => ?_⟩
    · have k1 : Keep F' w1 w5 := ((hd2.keep.mono fun _ _ (h : False) => h.elim).chain (hk3.mono fun _ _ (h : False) => h.elim)).chain ((k4.chain k5).mono fun b _ hb => by subst hb; exact hgF)
      exact hE.keep.trans k1 (fun _ _ h => h) fun b hb h' => (hE.new b h').resolve_right (by omega)
    · rcases hb with hb | hb
      · exact hE.new b hb
      · right
        have := hn3 b hb.symm; have := hE.keep.size; have := (Drew.keep (S := fun _ => False) hd2).size
        omega
  have endF : ∀ w5 (hw : Keep (· = g) w4 w5) (h5 : RefB w5 x (fun b => F' b ∨ some b = blk a3) r (some ⟨g, 0, none⟩) ln' lc' (Ps'.set i (hearP xs want P.1, .slice a3 n3 c3))),
      RefAt w5 x (fun b => F' b ∨ some b = blk a3) r (upd (hearP xs want) peer (Ps.map (·.1))) := fun w5 hw h5 =>
    ⟨_, _, _, _, h5, by rw [List.map_set, hm, ← hset]⟩
  refine ⟨_, rfl, x, 0, rfl, _, _, _, rd h4, g, 0, rfl, by omega, by omega, P.1.opn, h4.cell (j := 2) i4 rfl, ?_⟩
  have close : covers (joinv P.1.vec xs) want = true → P.1.opn = true → ∃ b41 o42, (some ⟨x, 0, none⟩ : Option Addr) = some ⟨b41, o42, none⟩ ∧ (∃ (t43a : Option Addr) (t43n : Nat) (t43c : Nat), w4.cell? ⟨b41, o42, none⟩ = some (.slice t43a t43n t43c) ∧ (∃ b44 o45, t43a = some ⟨b44, o45, none⟩ ∧
      (0 : Int) ≤ (i : Int) ∧ (i : Int) < ((t43n : Nat) : Int) ∧ PS w4 ⟨b44, o45 + Int.toNat (i : Int) * 4 + 2, none⟩ (.bool false) fun w46 => Ok (fun v w' => ∃ F', v = .bool (P.1.opn && covers (joinv P.1.vec xs) want) ∧ RefAt w' x F' r (upd (hearP xs want) peer (Ps.map (·.1))) ∧ Evo F w F' w') (.returned (.bool true)) w46)) := fun hc ho => by
    refine ⟨x, 0, rfl, _, _, _, rd h4, g, 0, rfl, by omega, by omega, h4.put (j := 2) (P' := (hearP xs want P.1, .slice a3 n3 c3)) i4 (by decide) (by simp [pcells, hearP, hc]) ⟨a3, n3, c3, rfl, hvI4, hnew⟩ fun w5 k5 h5 => ?_⟩
    rw [List.set_set] at h5
    exact Ok.mk ⟨_, by rw [hc, ho]; rfl, endF w5 k5 h5, hEvo w5 k5⟩
  have stay : (P.1.opn && covers (joinv P.1.vec xs) want) = false → Ok (fun v w' => ∃ F', v = .bool (P.1.opn && covers (joinv P.1.vec xs) want) ∧ RefAt w' x F' r (upd (hearP xs want) peer (Ps.map (·.1))) ∧ Evo F w F' w') (.returned (.bool false)) w4 := fun hc => by
    have e : hearP xs want P.1 = ⟨P.1.no, P.1.asked, P.1.opn, joinv P.1.vec xs⟩ := by
      unfold hearP
      congr 1
      cases ho : P.1.opn
      · rfl
      · rw [ho] at hc; simp at hc; simp [hc]
    refine Ok.mk ⟨_, by rw [hc], endF w4 (Keep.refl _) (by rw [e]; exact h4), hEvo w4 (Keep.refl _)⟩
  refine PIf.mk (fun ho => PIf.mk (fun hc => close ?_ ho) fun hc => PIf.mk (fun hc2 => close ?_ ho) fun hc2 => stay ?_) (fun ho => stay (by rw [ho]; rfl))
  · unfold covers; rw [hc]; rfl
  · unfold covers; rw [hc2]; simp
  · unfold covers; rw [hc, hc2]; simp
end Go.Proofs.Ytnfcddhabhbicaa
