/- the calls that come in, one by one; and two tables beside each other -/
import Derived.Test.YtnfcddhabhbicaaDue
namespace Go.Proofs.Ytnfcddhabhbicaa
open Go.Lift Go.ChangeShapes Go.WideShapes Go.ChangeAt Go.RowKit
set_option linter.unusedVariables false

structure ActV where
  kind : Int
  peer : Int
  now : Int
  vec : List Int
  want : List Int

structure OneAct (w : World) (x : ActV) (b o : Nat) (a1 : Option Addr) (n1 c1 : Nat) (a2 : Option Addr) (n2 c2 : Nat) : Prop where
  kind : w.cell? ⟨b, o, none⟩ = some (.int .i64 x.kind)
  peer : w.cell? ⟨b, o + 1, none⟩ = some (.int .i64 x.peer)
  now : w.cell? ⟨b, o + 2, none⟩ = some (.int .i64 x.now)
  vec : w.cell? ⟨b, o + 3, none⟩ = some (.slice a1 n1 c1)
  want : w.cell? ⟨b, o + 4, none⟩ = some (.slice a2 n2 c2)
  vecI : Ints w a1 n1 x.vec
  wantI : Ints w a2 n2 x.want
  kindR : I64 x.kind
  peerR : I64 x.peer
  nowR : I64 x.now

structure Acts (w : World) (a : Option Addr) (n : Nat) (l : List ActV) : Prop where
  len : n = l.length
  big : n * 72 ≤ Big
  act : ∀ (i : Nat) x, l[i]? = some x → ∃ b o a1 n1 c1 a2 n2 c2, a = some ⟨b, o, none⟩ ∧ b < w.heap.size ∧ OneAct w x b (o + i * 5) a1 n1 c1 a2 n2 c2

theorem OneAct.grew {w w' : World} {x : ActV} {b o : Nat} {a1 : Option Addr} {n1 c1 : Nat} {a2 : Option Addr} {n2 c2 : Nat} (h : OneAct w x b o a1 n1 c1 a2 n2 c2) (hk : Grew w w') (hb : b < w.heap.size) : OneAct w' x b o a1 n1 c1 a2 n2 c2 :=
  ⟨by rw [cell_grew hk hb]; exact h.kind, by rw [cell_grew hk hb]; exact h.peer, by rw [cell_grew hk hb]; exact h.now, by rw [cell_grew hk hb]; exact h.vec, by rw [cell_grew hk hb]; exact h.want, h.vecI.grew hk, h.wantI.grew hk, h.kindR, h.peerR, h.nowR⟩

theorem Acts.grew {w w' : World} {a : Option Addr} {n : Nat} {l : List ActV} (h : Acts w a n l) (hk : Grew w w') : Acts w' a n l :=
  ⟨h.len, h.big, fun i x hi => by
    obtain ⟨b, o, a1, n1, c1, a2, n2, c2, ha, hb, ho⟩ := h.act i x hi
    exact ⟨b, o, a1, n1, c1, a2, n2, c2, ha, Nat.lt_of_lt_of_le hb hk.size, ho.grew hk hb⟩⟩

section
variable {H : Type} {enc : TypeId × Value → H} {w : World} {held : Bool} {r : Reach} {b0 : Nat} {v : Value} {d : DataW H} {ps : List MemPlace}
theorem in_acts (hval : Value.okWide Try.prog w r b0 37 v) (hd : DataW.Trod enc Try.prog w 0 (fun _ => true) held 37 v d ps) (hw : Light Try.prog 37 d) :
    ∃ a n c l, v = .slice a n c ∧ Acts w a n l := by
  obtain ⟨a, n, c, rfl⟩ := okWide_slice Try.underlying37 hval
  obtain ⟨fuel, hf⟩ := hd
  obtain ⟨a', n', c', h, hb, hel⟩ := open_elems Try.underlying37 (by kernel_rfl : Try.prog.cellsOf 40 = 5) (by decide) hf hw
  simp only [Value.cells] at h
  cases h
  have hby : Try.prog.bytesOf 40 = 72 := by kernel_rfl
  rw [hby] at hb
  have hi3 : Try.prog.underlying 3 = some (.int .i64) := Try.underlying3
  have hs : Try.prog.underlying 23 = some (.slice 3) := Try.underlying23
  have k1 : Try.prog.cellsOf 3 = 1 := by kernel_rfl
  have k2 : Try.prog.bytesOf 3 = 8 := by kernel_rfl
  have k3 : Try.prog.cellsOf 23 = 1 := by kernel_rfl
  have one : ∀ i, i < n → ∃ x : ActV, ∃ b o a1 n1 c1 a2 n2 c2, a = some ⟨b, o, none⟩ ∧ b < w.heap.size ∧ OneAct w x b (o + i * 5) a1 n1 c1 a2 n2 c2 := by
    intro i hi
    obtain ⟨b, o, cs, m, y, ha, hlt, hl, hc, hr, hy⟩ := hel i hi
    obtain ⟨xs, n2, _, rfl, -, hxl, hfs⟩ := DataW.trod_struct (Try.underlying40) hr
    match cs, hl with
    | [v0, v1, v2, v3, v4], _ =>
    match xs, hxl with
    | [y0, y1, y2, y3, y4], _ =>
      have f0 := hfs 0 _ rfl
      have f1 := hfs 1 _ rfl
      have f2 := hfs 2 _ rfl
      have f3 := hfs 3 _ rfl
      have f4 := hfs 4 _ rfl
      simp only [k1, k3, List.drop_zero, List.drop_succ_cons, List.take_succ_cons, List.take_zero, List.getElem?_cons_zero, List.getElem?_cons_succ] at f0 f1 f2 f3 f4
      obtain ⟨z0, e0, -, w0⟩ := DataW.trod_int hi3 f0
      obtain ⟨z1, e1, -, w1⟩ := DataW.trod_int hi3 f1
      obtain ⟨z2, e2, -, w2⟩ := DataW.trod_int hi3 f2
      have hyy : ∀ z ∈ [y3, y4], Light Try.prog 23 z.1 := by
        intro z hz q hq
        refine hy q ?_
        have hu : Try.prog.underlying 40 = _ := Try.underlying40
        simp only [DataW.weights, hu, List.map_cons, List.map_nil, DataW.weightsEach, List.mem_append]
        simp only [List.mem_cons, List.not_mem_nil, or_false] at hz
        rcases hz with rfl | rfl
        · right; right; right; left; exact hq
        · right; right; right; right; left; exact hq
      obtain ⟨a1, n1, c1, l1, e3, i3⟩ := open_ints_in hs hi3 k1 k2 f3 (hyy _ (by simp))
      obtain ⟨a2, n2, c2, l2, e4, i4⟩ := open_ints_in hs hi3 k1 k2 f4 (hyy _ (by simp))
      cases e0; cases e1; cases e2; cases e3; cases e4
      refine ⟨⟨z0, z1, z2, l1, l2⟩, b, o, a1, n1, c1, a2, n2, c2, ha, hlt, ⟨?_, ?_, ?_, ?_, ?_, i3, i4, i64_of_wf w0, i64_of_wf w1, i64_of_wf w2⟩⟩
      · exact hc 0 (by decide)
      · exact hc 1 (by decide)
      · exact hc 2 (by decide)
      · exact hc 3 (by decide)
      · exact hc 4 (by decide)
  haveI : Inhabited ActV := ⟨⟨0, 0, 0, [], []⟩⟩
  obtain ⟨f, hf⟩ := Go.Deep.choose_lt one
  refine ⟨a, n, c, (List.range n).map f, rfl, by simp, ?_, ?_⟩
  · unfold reachBytes at hb; unfold Big; omega
  · intro i z hz
    by_cases hi : i < n
    · rw [List.getElem?_map, List.getElem?_range hi] at hz
      cases hz
      exact hf i hi
    · rw [List.getElem?_eq_none (by simp; omega)] at hz; cases hz
end

/-- a time that may be -/
def atT (now : Int) : Int := pick now 4611686018427387904
theorem atT_range (now : Int) : 0 ≤ atT now ∧ atT now < 4611686018427387904 := pick_range (by omega)

theorem law_at {now : Int} {w : World} : Calls Try.prog F_law26_at #[.int .i64 now] w (Ok fun v w' => v = .int .i64 (atT now) ∧ w = w') := by
  refine L_law26_at (PC.ok (kit_Pick (by unfold I64; omega)) ?_)
  rintro _ _ ⟨rfl, rfl⟩
  exact ⟨_, rfl, Ok.mk ⟨rfl, rfl⟩⟩

theorem law_Long {a : Option Addr} {n c : Nat} {l : List ActV} {w : World} (h : Acts w a n l) :
    Calls Try.prog F_law26_Long #[.slice a n c] w (Ok fun v w' => ∃ b : Bool, v = .bool b ∧ w = w' ∧ (b = false → l.length ≤ 200 ∧ ∀ x ∈ l, x.vec.length ≤ 100 ∧ x.want.length ≤ 100)) := by
  have hn := h.len; have hbig := h.big
  unfold Big at hbig
  refine L_law26_Long ⟨fun k i w' => ∃ j : Nat, i = (j : Int) ∧ j ≤ n ∧ k = n - j ∧ w' = w ∧ ∀ x ∈ l.take j, x.vec.length ≤ 100 ∧ x.want.length ≤ 100, ⟨_, 0, rfl, by omega, rfl, rfl, by simp⟩, ?_⟩
  rintro k i B _ ⟨j, rfl, hj, rfl, rfl, hd⟩
  refine PIf.mk (fun hlt => ?_) (fun hge => ?_)
  · have hlt := of_decide_eq_true hlt
    obtain ⟨x, hx⟩ : ∃ x, l[j]? = some x := ⟨_, List.getElem?_eq_getElem (by omega : j < l.length)⟩
    obtain ⟨b, o, a1, n1, c1, a2, n2, c2, ha, hb, ho⟩ := h.act j x hx
    refine ⟨b, o, ha, by omega, hlt, a1, n1, c1, ho.vec, PIf.mk (fun _ => Ok.mk ⟨true, rfl, rfl, fun h => (by cases h)⟩) (fun h1 => ⟨b, o, ha, by omega, hlt, a2, n2, c2, ho.want, PIf.mk (fun _ => Ok.mk ⟨true, rfl, rfl, fun h => (by cases h)⟩) (fun h2 => ?_)⟩)⟩
    have h1 := of_decide_eq_false h1
    have h2 := of_decide_eq_false h2
    have := ho.vecI.len; have := ho.wantI.len
    refine ⟨n - (j + 1), by omega, j + 1, by rw [wrap_i64 (by unfold I64; omega)]; simp, by omega, rfl, rfl, fun y hy => ?_⟩
    rw [List.take_add_one, hx] at hy
    rcases List.mem_append.1 hy with hy | hy
    · exact hd y hy
    · simp at hy; subst hy; omega
  · have hge := of_decide_eq_false hge
    refine Ok.mk ⟨_, rfl, rfl, fun h => ?_⟩
    have h := of_decide_eq_false h
    rw [List.take_of_length_le (by omega)] at hd
    exact ⟨by omega, hd⟩

/-- two tables, apart -/
structure Two (w0 w : World) (p q : Nat) (F G : Nat → Prop) (T U : Tab) : Prop where
  ta : TabAt w p F T
  tb : TabAt w q G U
  fa : ∀ b, F b → w0.heap.size ≤ b
  fb : ∀ b, G b → w0.heap.size ≤ b
  dis : ∀ b, F b → ¬ G b
  gr : Grew w0 w

theorem Two.grew {w0 w w' : World} {p q : Nat} {F G : Nat → Prop} {T U : Tab} (h : Two w0 w p q F G T U) (hk : Grew w w') : Two w0 w' p q F G T U :=
  ⟨h.ta.grew hk, h.tb.grew hk, h.fa, h.fb, h.dis, h.gr.grew hk⟩
theorem Two.swap {w0 w : World} {p q : Nat} {F G : Nat → Prop} {T U : Tab} (h : Two w0 w p q F G T U) : Two w0 w q p G F U T :=
  ⟨h.tb, h.ta, h.fb, h.fa, fun b hg hf => h.dis b hf hg, h.gr⟩
theorem Two.stepE {w0 w w' : World} {p q : Nat} {F F' G : Nat → Prop} {T T' U : Tab} (h : Two w0 w p q F G T U) (ht : TabAt w' p F' T') (hk : Evo F w F' w') : Two w0 w' p q F' G T' U :=
  ⟨ht, h.tb.keep hk.keep (fun b hg hf => h.dis b hf hg), fun b hb => (hk.new b hb).elim (h.fa b) fun h' => Nat.le_trans h.gr.size h', h.fb,
    fun b hb hg => (hk.new b hb).elim (fun hf => h.dis b hf hg) fun h' => by have := h.tb.dom b hg; omega, h.gr.new hk.keep fun b hb => .inr (h.fa b hb)⟩
theorem Two.step {w0 w w' : World} {p q : Nat} {F G : Nat → Prop} {T T' U : Tab} (h : Two w0 w p q F G T U) (ht : TabAt w' p F T') (hk : Keep F w w') : Two w0 w' p q F G T' U :=
  h.stepE ht ⟨hk, fun _ h => .inl h⟩
theorem Two.of {w0 w w' : World} {p q : Nat} {F G : Nat → Prop} {T U : Tab} (ha : TabAt w p F T) (hg : Grew w0 w) (hF : ∀ b, F b → w0.heap.size ≤ b) (hb : TabAt w' q G U) (hk : Grew w w') (hG : ∀ b, G b → w.heap.size ≤ b) : Two w0 w' p q F G T U :=
  ⟨ha.grew hk, hb, hF, fun b h => Nat.le_trans hg.size (hG b h), fun b hf hg' => by have := ha.dom b hf; have := hG b hg'; omega, hg.grew hk⟩

theorem getv_joinv (xs ys : List Int) (i : Int) : getv (joinv xs ys) i = max (getv xs i) (getv ys i) := by
  have h0 : ∀ (l : List Int), 0 ≤ getv l i := fun l => by unfold getv; split <;> omega
  by_cases hi : i < 0
  · unfold getv; simp [hi]
  · by_cases hl : i.toNat < max xs.length ys.length
    · have : (joinv xs ys)[i.toNat]? = some (max (getv xs i) (getv ys i)) := by
        unfold joinv joinTo
        rw [List.getElem?_map, List.getElem?_range hl]
        simp only [Option.map_some]
        rw [show ((i.toNat : Nat) : Int) = i by omega]
      have a := h0 xs; have b := h0 ys
      rw [getv_of (by omega) this]
      omega
    · have h1 : getv (joinv xs ys) i = 0 := getv_out (by rw [joinv_length]; omega)
      have h2 : getv xs i = 0 := getv_out (by omega)
      have h3 : getv ys i = 0 := getv_out (by omega)
      rw [h1, h2, h3]; rfl

theorem cmpv_eq {xs ys : List Int} (h : ∀ i, getv xs i = getv ys i) : cmpv xs ys = 0 := by
  have : ∀ k, cmpTo xs ys k = 0 := fun k => by
    induction k with
    | zero => rfl
    | succ k ih => simp [cmpTo, ih, h]
  exact this _
end Go.Proofs.Ytnfcddhabhbicaa
