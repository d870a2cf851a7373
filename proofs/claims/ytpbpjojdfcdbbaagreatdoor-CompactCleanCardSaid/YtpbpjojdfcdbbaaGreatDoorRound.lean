/-
  RANGES OVER A FUNCTION, in the second form of a function's code (XLift): what must hold for a run of it to end as wished, as one formula (DR): of functions that range over a function, and of iterators, which call yield. No program is named here.
-/
import Derived.Test.YtpbpjojdfcdbbaaGreatDoorLift
import Derived.RangeFuncSeq
import Derived.RangeFuncLeaves
import Derived.Deep.LoopGhost
namespace Go.Lift
open Go
set_option linter.unusedVariables false

/-- the widest fence; in a round, or not -/
abbrev FW (ro : Option Nat) : Fence := { Fence.wide with round := ro }
theorem callsIn_FW {ro : Option Nat} {n : Nat} {P : Program} {f : FuncId} {args : Array Value} {w : World} {R : Ending → World → Prop} : CallsIn (FW ro) n P f args w R ↔ Calls P f args w R :=
  ⟨fun h => callsIn_wide.1 (show CallsIn Fence.wide n P f args w R from h), fun h => show CallsIn (FW ro) n P f args w R from (callsIn_wide (n := n)).2 h⟩
theorem room_FW {ro : Option Nat} (n : Nat) : (FW ro).room n := fun _ h => by simp [Fence.wide] at h
theorem rowsIn_FW {ro : Option Nat} {n : Nat} {P : Program} {row : String} {args : Array Value} {w : World} {R : Value → World → Prop} (h : Rows P row args w R) : RowsIn (FW ro) n P row args w R := by
  intro c cs _
  obtain ⟨v, w', r, s⟩ := h c cs
  exact ⟨v, w', r, (stepsIn_wide (P := P)).2 s⟩

def calmO (o : Oper) : Bool := match o.op with
  | .defer _ => false
  | _ => true
theorem calmO.out {o : Oper} (h : calmO o = true) : ∀ c, o.op ≠ .defer c := by
  intro c hc
  unfold calmO at h
  rw [hc] at h; cases h

section
variable {P : Program} {ro : Option Nat} {n : Nat}
theorem wpIn_op {o : Oper} {a : Act} {w : World} {next : Act → World → Prop} {Q : Exit → Act → World → Prop} (hd : ro = none ∨ calmO o = true) (h : o.wp P a w next Q) : o.wpIn (FW ro) n P a w next Q := by
  refine ⟨fun _ _ => trivial, ?_⟩
  have he : o.semAt (FW ro).round a.eval = execOp a.eval o := by
    rcases hd with rfl | hd
    · rfl
    · exact Oper.semAt_eq _ _ _ (calmO.out hd)
  rw [he]
  unfold Oper.wp at h
  generalize (execOp a.eval o).run P w = r at h ⊢
  cases r with
  | ok x w' =>
    cases x with
    | value v => exact h
    | skip => exact h
    | defer d => exact h
    | enter f args => exact ⟨fun h => by simp [Fence.wide] at h, callsIn_FW.2 h⟩
    | row row args => exact ⟨fun h => by simp [Fence.wide] at h, rowsIn_FW h⟩
    | _ => exact h.elim
  | halt x w' => cases x <;> first | exact h | exact h.elim

theorem wpIn_ops {ops : Array Oper} {Q : Exit → Act → World → Prop} (hQ : ∀ a w, ¬ Q .outgrown a w) (hd : ro = none ∨ ∀ o ∈ ops.toList, calmO o = true) : ∀ (l : List Nat) (a : Act) (w : World), wpOps P ops Q l a w → wpOpsIn (FW ro) n P ops Q l a w
  | [], a, w, h => h
  | i :: l, a, w, h => by
    unfold wpOps at h
    unfold wpOpsIn
    cases ho : ops[i]? with
    | none => rw [ho] at h; exact wpIn_ops hQ hd l a w h
    | some o =>
      rw [ho] at h
      simp only at h ⊢
      split
      · rename_i hw
        rw [if_pos hw] at h
        rcases h with h | ⟨-, a', w', h⟩
        · have h2 : o.wp P a w (wpOpsIn (FW ro) n P ops Q l) Q := Oper.wp_mono (fun a w h => wpIn_ops hQ hd l a w h) h
          refine wpIn_op ?_ h2
          rcases hd with hd | hd
          · exact .inl hd
          · refine .inr (hd o ?_)
            obtain ⟨hlt, rfl⟩ := Array.getElem?_eq_some_iff.1 ho
            simp
        · exact absurd h (hQ a' w')
      · rename_i hw
        rw [if_neg hw] at h
        exact ⟨fun _ _ => trivial, wpIn_ops hQ hd l _ w h⟩
end

section
variable {F : Fence} {n : Nat} {P : Program} {Q : Exit → Act → World → Prop} {a : Act} {w : World} {b : Frame} {k : List Item} {cs : List Frame}
theorem stepR_scope {c : Code} : step P (lone (b.atR a (.code (.scope c) :: k)) cs w) = .next (lone (b.atR a (.code c :: .inScope c :: k)) cs w) :=
  step_lone_go (by simp [stepG, stepG.exec, Frame.atR])
theorem stepR_inScope {c : Code} : step P (lone (b.atR a (.inScope c :: k)) cs w) = .next (lone (b.atR a k) cs w) :=
  step_lone_go (by simp [stepG, stepG.exec, Frame.atR])
theorem wpIn_scope {c : Code} (h : c.wpIn F n P (Exit.noGoto Q) a w) : (Code.scope c).wpIn F n P Q a w := by
  intro b k cs hro hb hr
  have h0 : (lone (b.atR a (.code (.scope c) :: k)) cs w).fenced P F := fenced_calm hb hr rfl
  obtain ⟨e, a₁, w₁, hq, harr⟩ := h b (.inScope c :: k) cs hro hb hr
  cases e with
  | normal => exact ⟨.normal, a₁, w₁, hq, .head h0 stepR_scope (StepsIn.trans harr (.one (fenced_calm hb hr rfl) stepR_inScope))⟩
  | exit id =>
    have hx : exitTo id (.inScope c :: k) = exitTo id k := by simp [exitTo]
    exact ⟨.exit id, a₁, w₁, hq, fun k' hk => .head h0 stepR_scope (harr.1 k' (by rw [hx]; exact hk)),
      fun hr' hk => let ⟨k₁, h1, h2⟩ := harr.2 hr' (by rw [hx]; exact hk); ⟨k₁, h1, .head h0 stepR_scope h2⟩⟩
  | goto l => exact hq.elim
  | ret => exact ⟨_, a₁, w₁, hq, .of_steps (.one h0 stepR_scope) harr⟩
  | panic ch => exact ⟨_, a₁, w₁, hq, .of_steps (.one h0 stepR_scope) harr⟩
  | outgrown => exact ⟨_, a₁, w₁, hq, .of_steps (.one h0 stepR_scope) harr⟩
theorem wpIn_loop_ghost {c : Code} (I : Nat → Act → World → Prop) (n₀ : Nat) (h₀ : I n₀ a w)
    (round : ∀ m a w, I m a w → c.wpIn F n P (Exit.then (fun a' w' => ∃ m', m' < m ∧ I m' a' w') Q) a w) : (Code.loop c).wpIn F n P Q a w := by
  refine wpIn_loop (fun a w => ∃ m, I m a w) (fun a w => leastOf (fun m => I m a w)) ⟨n₀, h₀⟩ ?_
  intro a w hI
  refine wpIn_mono (round _ a w (leastOf_spec hI).1) ?_
  intro e a' w' hq
  cases e with
  | normal =>
    obtain ⟨n', hlt, hI'⟩ := hq
    exact show (∃ n, I n a' w') ∧ leastOf (fun n => I n a' w') < leastOf (fun n => I n a w) from ⟨⟨n', hI'⟩, Nat.lt_of_le_of_lt ((leastOf_spec ⟨n', hI'⟩).2 n' hI') hlt⟩
  | exit id => exact hq
  | goto l => exact hq
  | ret => exact hq
  | panic ch => exact hq
  | outgrown => exact hq
end

/-- a region, in each order that it may draw -/
theorem region_ops {P : Program} (hm : P.follows .mixedOrders = true) {A : Ann} {n id : Nat} {ops : Array Oper} {draw : Bool} {Q : Post} {B : Base} {e : Bnd} {a : Act} {w : World}
    (hw : ∀ t, t ∈ writes (.region id ops draw) → t < n) (hr : Rel n B e a) (h : D P A (.region id ops draw) Q B e a.defers w) :
    (draw = false → wpOps P ops (PostA n B e (writes (.region id ops draw)) Q) (List.range ops.size) a w) ∧
    (draw = true → ∀ t, wpOps P ops (PostA n B e (writes (.region id ops draw)) Q) (Region.schedule (P.follows .mixedOrders) ops t) a { w with drawn := w.drawn + 1 }) := by
  have hl : ∀ o ∈ ops.toList, ∀ d, o.dst = some d → d < n ∧ d ∈ writes (.region id ops draw) := fun o ho d hd => ⟨hw d (mem_wrOps ho hd), mem_wrOps ho hd⟩
  have hops : ∀ j t, gslot ops j = some t → t < n := by
    intro j t hj
    unfold gslot at hj
    cases ho : ops[j]? with
    | none => rw [ho] at hj; simp at hj
    | some o =>
      rw [ho] at hj
      have hmem : o ∈ ops.toList := by
        have := Array.getElem?_eq_some_iff.1 ho
        obtain ⟨hlt, rfl⟩ := this
        simp
      exact (hl o hmem t hj).1
  cases draw with
  | false =>
    refine ⟨fun _ => ?_, fun h => by cases h⟩
    rw [List.range_eq_range', ← Array.length_toList, wpOps_eq_wpList ops.toList 0 (by simp)]
    exact DOps_wp hops ops.toList e a w hl hr (fun _ _ => rfl) h
  | true =>
    refine ⟨fun h => (by cases h), fun _ t => ?_⟩
    simp only [Region.schedule, hm, Bool.true_or, if_true]
    refine wpAny_sound ops.size t _ a _ ?_
    unfold D at h
    simp only at h
    split at h
    · obtain ⟨hB, h⟩ := must.out h
      simp only [Region.lexB, Bool.and_eq_true] at hB
      have h2 := DOpsQ_quiet (B0 := B) (e0 := e) (W := writes (.region id ops true)) hops ops.toList e a hl hr (fun _ _ => rfl) h
      have h3 : wpQuiet P ops (Drew w) (fun a' => ∀ w', Drew w w' → PostA n B e (writes (.region id ops true)) Q .normal a' w') ops.toList a := by
        refine wpQuiet_mono ?_ _ _ h2
        rintro a' ⟨e', hr', hd', hag', hq⟩ w' hw'
        exact ⟨B, e', hr', hag', by rw [hd']; exact hq w' hw'⟩
      refine wpAny_of_quiet (C := Drew w) (Q := fun a' => ∀ w', Drew w w' → PostA n B e (writes (.region id ops true)) Q .normal a' w') (fun _ w' hw' h => h w' hw') _ _ _ _ ⟨1, rfl⟩ ?_
      have := wpAnyQ_lex (C := Drew w) (md := .any) hB.1 ops.toList 0 (Array.replicate ops.size false) a (by simp) (by simpa using hB.2) h3
      simpa using this
    · obtain ⟨hsel, h⟩ := must.out h
      have fin : ∀ (pres : Bool) (S : Nat → Prop) (V : Nat → Bool), DMix P B ops pres S (fun ch ds w => ∀ B e, Q (.panic ch) B e ds w) (fun e ds w => Q .normal B e ds w) V ops.size (Array.replicate ops.size false) e a.defers (w.drewN 1) →
          wpAny P .any ops (PostA n B e (writes (.region id ops true)) Q) ops.size (Array.replicate ops.size false) a { w with drawn := w.drawn + 1 } := fun pres S V h =>
        wpAny_of_M (fun ch a w h => PanA.post ch a w h) (fun _ _ h => h) _ _ _ _ _ (DMix_wp (B0 := B) (e0 := e) (W := writes (.region id ops true)) hops hsel hl V _ _ e a _ hr (fun _ _ => rfl) h)
      split at h
      · split at h
        · obtain ⟨S, h⟩ := h _ ⟨1, rfl⟩
          exact fin _ S _ h
        · exact fin _ _ _ (h _ ⟨1, rfl⟩)
      · obtain ⟨hM, h⟩ := must.out h
        split at h
        · obtain ⟨S, h⟩ := h _ ⟨1, rfl⟩
          rw [DMixN_eq hM _ _ (Rep.init _)] at h
          exact fin _ S _ h
        · have h := h _ ⟨1, rfl⟩
          rw [DMixN_eq hM _ _ (Rep.init _)] at h
          exact fin _ _ _ h

/-! ### yield is called -/

/-- a round of loop l, with these values -/
def YieldW (P : Program) (l : Nat) (vs : List Value) (w : World) (R : Bool → World → Prop) : Prop :=
  YieldAt (FW none) 0 P l vs.toArray w fun e w' => ∃ b, e = .returned (.bool b) ∧ R b w'
theorem YieldW.mono {P : Program} {l : Nat} {vs : List Value} {w : World} {R R' : Bool → World → Prop} (h : YieldW P l vs w R) (hr : ∀ b w', R b w' → R' b w') : YieldW P l vs w R' := by
  obtain ⟨fn, tmps, assign, body, h1, h2⟩ := h
  exact ⟨fn, tmps, assign, body, h1, h2.mono fun e w' ⟨b, he, h⟩ => ⟨b, he, hr b w' h⟩⟩
def PYield (P : Program) (v : Value) (args : Array Value) (w : World) (κ : Value → World → Prop) : Prop :=
  ∃ l, v = .func (.yield l) #[] #[] ∧ YieldW P l args.toList w fun b w' => κ (.bool b) w'

def isYield (o : Oper) : Option (Operand × Array Operand) := match o.op with
  | .call { callee := .value (.func _), .. } => none
  | .call { callee := .value f, args, .. } => some (f, args)
  | _ => none

def DOpY (P : Program) (B : Base) (ops : Array Oper) (Q : Post) (o : Oper) (K : Bnd → List Deferred → World → Prop) (e : Bnd) (ds : List Deferred) (w : World) : Prop := match isYield o with
  | some (f, args) => PYield P (ev B e f) (args.map (ev B e)) w fun v w' => K (putE e o.dst v) ds w'
  | none => DOp P ops B o Q K e ds w
def DOpsY (P : Program) (B : Base) (ops : Array Oper) (Q : Post) : List Oper → (Bnd → List Deferred → World → Prop) → Bnd → List Deferred → World → Prop
  | [], K, e, ds, w => K e ds w
  | o :: rest, K, e, ds, w => match o.guard with
    | none => DOpY P B ops Q o (DOpsY P B ops Q rest K) e ds w
    | some (j, want) => match gslot ops j with
      | none => False
      | some t => match get B e t with
        | .bool b => PIf b
          (match want with
            | true => DOpY P B ops Q o (DOpsY P B ops Q rest K) ((t, .bool true) :: e) ds w
            | false => DOpsY P B ops Q rest K (putE ((t, .bool true) :: e) o.dst undef) ds w)
          (match want with
            | true => DOpsY P B ops Q rest K (putE ((t, .bool false) :: e) o.dst undef) ds w
            | false => DOpY P B ops Q o (DOpsY P B ops Q rest K) ((t, .bool false) :: e) ds w)
        | .tuple _ => DOpsY P B ops Q rest K (putE e o.dst undef) ds w
        | _ => False

theorem roundIn_FW {P : Program} {ro : Option Nat} {n m l : Nat} {f : FuncId} {tmps : Array Value} {assign body : Code} {w : World} {R : Ending → World → Prop} (h : RoundIn (FW none) m P l f tmps assign body w R) : RoundIn (FW ro) n P l f tmps assign body w R :=
  ⟨trivial, fun c cs _ => h.2 c cs (room_FW _)⟩

theorem isYield_exec {P : Program} {o : Oper} {f : Operand} {args : Array Operand} {ρ : Operand → Value} {l : Nat} {w : World} (h : isYield o = some (f, args)) (hf : ρ f = .func (.yield l) #[] #[]) :
    (execOp ρ o).run P w = (Instr.yield l (args.map ρ)).run P w := by
  unfold isYield at h
  split at h
  · cases h
  · rename_i f' args' hne ho
    simp only [Option.some.injEq, Prod.mk.injEq] at h
    obtain ⟨rfl, rfl⟩ := h
    simp only [execOp, ho, resolve, hf]
    simp [Deferred.ofValue, invoke, Sem.run_bind, Sem.run_pure, Result.andThen]
  · cases h

theorem DOpsY_wp {P : Program} {ro : Option Nat} {m n : Nat} {B B0 : Base} {e0 : Bnd} {W : List Nat} {ops : Array Oper} {Q : Post} (hops : ∀ j t, gslot ops j = some t → t < n) (hQ : ∀ x B e ds w, Q x B e ds w → x ≠ .outgrown) (hd : ro = none ∨ ∀ o ∈ ops.toList, calmO o = true) :
    ∀ (l : List Oper) (k : Nat) (e : Bnd) (a : Act) (w : World), (∀ j, l[j]? = ops[k + j]?) → (∀ o ∈ l, ∀ d, o.dst = some d → d < n ∧ d ∈ W) → Rel n B e a → (∀ t, t ∉ W → get B e t = get B0 e0 t) →
      DOpsY P B ops Q l (fun e ds w => Q .normal B e ds w) e a.defers w → wpOpsIn (FW ro) m P ops (PostA n B0 e0 W Q) (List.range' k l.length) a w
  | [], k, e, a, w, _, _, hr, hag, h => ⟨B, e, hr, hag, h⟩
  | o :: rest, k, e, a, w, hlk, hl, hr, hag, h => by
    have h0 : ops[k]? = some o := by simpa using (hlk 0).symm
    have hmem : o ∈ ops.toList := by
      obtain ⟨hlt, rfl⟩ := Array.getElem?_eq_some_iff.1 h0
      simp
    have hlk' : ∀ j, rest[j]? = ops[k + 1 + j]? := fun j => by have := hlk (j + 1); simpa [Nat.add_assoc, Nat.add_comm 1 j] using this
    have hdst : ∀ d, o.dst = some d → d < n := fun d hd => (hl o (List.mem_cons_self ..) d hd).1
    have hagp : ∀ (e : Bnd), (∀ t, t ∉ W → get B e t = get B0 e0 t) → ∀ v t, t ∉ W → get B (putE e o.dst v) t = get B0 e0 t := by
      intro e hag v t ht
      cases hd : o.dst with
      | none => exact hag t ht
      | some d =>
        have hdW := (hl o (List.mem_cons_self ..) d hd).2
        show get B ((d, v) :: e) t = _
        rw [get_cons, if_neg (by rintro rfl; exact ht hdW)]
        exact hag t ht
    have hl' : ∀ o ∈ rest, ∀ d, o.dst = some d → d < n ∧ d ∈ W := fun o ho => hl o (List.mem_cons_of_mem _ ho)
    have run : ∀ (e : Bnd), Rel n B e a → (∀ t, t ∉ W → get B e t = get B0 e0 t) → DOpY P B ops Q o (DOpsY P B ops Q rest fun e ds w => Q .normal B e ds w) e a.defers w →
        o.wpIn (FW ro) m P a w (wpOpsIn (FW ro) m P ops (PostA n B0 e0 W Q) (List.range' (k + 1) rest.length)) (PostA n B0 e0 W Q) := fun e hr hag h => by
      unfold DOpY at h
      split at h
      · rename_i f args hy
        obtain ⟨lp, hf, fn, tmps, assign, body, h1, h2⟩ := h
        refine ⟨fun _ _ => trivial, ?_⟩
        have hc : ∀ c, o.op ≠ .defer c := by
          intro c hc
          unfold isYield at hy
          rw [hc] at hy; cases hy
        rw [Oper.semAt_eq _ _ _ hc, hr.eval, isYield_exec (l := lp) hy hf]
        have h1' : (Instr.yield lp (args.map (ev B e))).run P w = .ok (.round lp fn tmps assign body) w := by
          have := h1
          rwa [Array.toArray_toList] at this
        rw [h1', Oper.uponIn_round]
        refine ⟨fun h => by simp [Fence.wide] at h, (roundIn_FW h2).mono ?_⟩
        rintro _ w' ⟨b, rfl, hK⟩
        exact DOpsY_wp hops hQ hd rest (k + 1) _ _ _ hlk' hl' (hr.put _ hdst _) (hagp e hag _) (by rw [put_defers]; exact hK)
      · refine wpIn_op (hd.imp id fun hd => hd o hmem) ?_
        exact DOp_wp hr hdst h (fun v a' w' hr' hK => DOpsY_wp hops hQ hd rest (k + 1) _ _ _ hlk' hl' hr' (hagp e hag v) hK) (fun ch w' hq => ⟨B, e, hr, hag, hq⟩)
    have skip : ∀ (e : Bnd), Rel n B e a → (∀ t, t ∉ W → get B e t = get B0 e0 t) → DOpsY P B ops Q rest (fun e ds w => Q .normal B e ds w) (putE e o.dst undef) a.defers w →
        wpOpsIn (FW ro) m P ops (PostA n B0 e0 W Q) (List.range' (k + 1) rest.length) (a.put o.dst undef) w := fun e hr hag h =>
      DOpsY_wp hops hQ hd rest (k + 1) _ _ _ hlk' hl' (hr.put _ hdst _) (hagp e hag _) (by rw [put_defers]; exact h)
    simp only [List.length_cons, List.range'_succ]
    unfold wpOpsIn
    rw [h0]
    simp only
    unfold DOpsY at h
    split at h
    · rename_i hg
      rw [if_pos (by simp [Region.wanted, hg])]
      exact run e hr hag h
    · rename_i j want hg
      split at h
      · exact h.elim
      · rename_i t hj
        have hy := yielded_of hr hj (hops j t hj)
        split at h
        · rename_i b hb
          rw [hb] at hy
          simp only at hy
          have hw : Region.wanted o (yielded ops a.tmps) = (b == want) := by
            simp only [Region.wanted, hg, hy]
            cases b <;> cases want <;> rfl
          rw [hw]
          have hr2 := hr.again hb
          have hag2 : ∀ u, u ∉ W → get B ((t, .bool b) :: e) u = get B0 e0 u := fun u hu => by rw [get_again hb]; exact hag u hu
          cases b <;> cases want <;> simp only [PIf] at h
          · exact run _ hr2 hag2 h
          · exact ⟨fun _ _ => trivial, skip _ hr2 hag2 h⟩
          · exact ⟨fun _ _ => trivial, skip _ hr2 hag2 h⟩
          · exact run _ hr2 hag2 h
        · rename_i vs hb
          rw [hb] at hy
          simp only at hy
          have hw : Region.wanted o (yielded ops a.tmps) = false := by
            simp [Region.wanted, hg, hy]
          rw [hw]
          exact ⟨fun _ _ => trivial, skip _ hr hag h⟩
        · exact h.elim

/-! ### the statement -/

/-- block l alone has turned -/
def Turn (l : Nat) (w w' : World) : Prop := Keep (fun b => b = l) w w' ∧ w'.heap.size = w.heap.size
def Marked (d : Nat) (w : World) : Prop := w.heap[d]? = some (.deferred (some []))
def markD (d : Nat) : Deferred := { target := .collected d, args := #[] }

/-- values of these shapes, whatever they are -/
def allA : List Value → (List Value → Prop) → Prop
  | [], φ => φ []
  | z :: zs, φ => match z with
    | .agg cs => allT cs.toList fun l => allA zs fun r => φ (.agg l.toArray :: r)
    | z => allT [z] fun l => allA zs fun r => φ (l ++ r)
/-- but for the loop's two blocks -/
def OffL (w : World) : Nat → Prop := fun b => b ≠ w.heap.size ∧ b ≠ w.heap.size + 1
def TypedA (zs vs : List Value) : Prop := ∀ φ : List Value → Prop, allA zs φ → φ vs

def allK : List (Exit × (World → Prop)) → (Exit → (World → Prop) → Prop) → Prop
  | [], _ => True
  | (x, K) :: r, φ => φ x K ∧ allK r φ
def exK (Q : Exit → World → Prop) : List Exit → List (Exit × (World → Prop))
  | [] => []
  | x :: r => (x, fun A => Q x A) :: exK Q r
def inK (x : Exit) : List (Exit × (World → Prop)) → Prop
  | [] => False
  | (y, _) :: r => x = y ∨ inK x r
theorem allK.out {Q : Exit → World → Prop} {φ : Exit → (World → Prop) → Prop} : ∀ {l : List Exit}, allK (exK Q l) φ → ∀ x, inK x (exK Q l) → x ∈ l ∧ φ x (fun A => Q x A)
  | [], _, x, hx => hx.elim
  | y :: r, h, x, hx => by
    obtain ⟨h1, h2⟩ := h
    rcases hx with rfl | hx
    · exact ⟨List.mem_cons_self .., h1⟩
    · obtain ⟨h3, h4⟩ := allK.out h2 x hx
      exact ⟨List.mem_cons_of_mem _ h3, h4⟩

/-- a range over function fv in world w: Bd: the body, from a world on, given what of the values is known, and what must hold at its ends; Kn: what stands behind; xk: the ways out of it, and what stands behind them -/
def RangeD (P : Program) (fv : Value) (zs : List Value) (w : World) (Bd : (List Value → Prop) → (List Value → Exit → World → Prop) → World → Prop) (Kn : World → Prop) (xk : List (Exit × (World → Prop))) : Prop :=
  ∃ g cap, fv = .func (.func g) #[] cap ∧ enters P g = true ∧
  ∃ (σ : Type) (s0 : σ) (J : σ → List (List Value) → World → Prop) (Jx : Exit → List (List Value) → World → Prop) (N : List (List Value) → List Value → Prop) (T : List (List Value) → Prop),
    (∀ w1, Keep (fun _ => False) w w1 → w1.heap.size = w.heap.size + 2 → J s0 [] w1) ∧
    (∀ s pre A B, J s pre A → Turn (w.heap.size + 1) A B → J s pre B) ∧
    (∀ x pre A B, Jx x pre A → Turn (w.heap.size + 1) A B → Jx x pre B) ∧
    (∀ s pre A, J s pre A → w.heap.size + 2 ≤ A.heap.size → Bd (N pre) (fun vs x A' => match x with
      | .normal => J s (pre ++ [vs]) A'
      | x => inK x xk ∧ Jx x (pre ++ [vs]) A') A) ∧
    (∀ (R : World → Prop) (Rx : Exit → World → Prop), (∀ A B, R A → Keep (OffL w) A B → R B) → (∀ x A B, Rx x A → Keep (OffL w) A B → Rx x B) →
      (∀ A, R A → w.heap.size + 2 ≤ A.heap.size) →
      (∀ s pre vs A, J s pre A → R A → TypedA zs vs → N pre vs → YieldW P (w.heap.size + 1) vs A fun b A' => (b = true ∧ J s (pre ++ [vs]) A' ∧ R A') ∨ (b = false ∧ ∃ x, Jx x (pre ++ [vs]) A' ∧ Rx x A')) →
      ∀ w1, J s0 [] w1 → R w1 → Calls P g (#[.func (.yield (w.heap.size + 1)) #[] #[]] ++ cap) w1 fun e A' => (∃ v, e = .returned v) ∧ ((R A' ∧ ∃ s all, J s all A' ∧ T all) ∨ ∃ x pre, Jx x pre A' ∧ Rx x A')) ∧
    (∀ s all A, J s all A → T all → Marked w.heap.size A → Kn A) ∧
    allK xk fun x K => ∀ pre A, Jx x pre A → Marked w.heap.size A → K A

def bindL : List Nat → List Value → Bnd → Bnd
  | t :: ts, v :: vs, e => bindL ts vs ((t, v) :: e)
  | _, _, e => e
def fstL : List (Nat × Value) → List Nat
  | [] => []
  | (t, _) :: r => t :: fstL r

def calmC : Code → Bool
  | .region _ ops _ => ops.toList.all calmO
  | .seq x y => calmC x && calmC y
  | .cond _ x y => calmC x && calmC y
  | .block _ c => calmC c
  | .loop c => calmC c
  | .scope c => calmC c
  | .rangeFunc .. => false
  | _ => true

/-- the ways out of a body, but for its end -/
def exitsOf : Code → List Exit
  | .exit id => [.exit id]
  | .ret => [.ret]
  | .seq x y => exitsOf x ++ exitsOf y
  | .cond _ x y => exitsOf x ++ exitsOf y
  | .block _ c => exitsOf c
  | .loop c => exitsOf c
  | .scope c => exitsOf c
  | _ => []
def codeOf : Exit → Code
  | .ret => .ret
  | .exit id => .exit id
  | .goto t => .goto t
  | _ => .skip
def roundQ (K : Exit → World → Prop) : Post := fun x _ _ _ w => match x with
  | .normal => K .normal w
  | .ret => K .ret w
  | .exit id => K (.exit id) w
  | _ => False

/-- (D), with ranges over a function, and calls of yield (in the regions Y) -/
def DR (P : Program) (A : Ann) (Y : List Nat) : Bool → Code → Post → Base → Bnd → List Deferred → World → Prop
  | _, .skip, Q, B, e, ds, w => Q .normal B e ds w
  | _, .label _, Q, B, e, ds, w => Q .normal B e ds w
  | _, .exit id, Q, B, e, ds, w => Q (.exit id) B e ds w
  | _, .ret, Q, B, e, ds, w => Q .ret B e ds w
  | _, .region id ops draw, Q, B, e, ds, w => match memb Y id with
    | true => (match draw with
      | false => DOpsY P B ops Q ops.toList (fun e ds w => Q .normal B e ds w) e ds w
      | true => False)
    | false => D P A (.region id ops draw) Q B e ds w
  | top, .seq x y, Q, B, e, ds, w => match seek A.forks (key y) with
    | none => DR P A Y top x (seqQ (fun B e ds w => DR P A Y top y Q B e ds w) Q) B e ds w
    | some S => ∃ J : Fn (zsOf S) (World → Prop), DR P A Y top x (seqQ (fun B' e' ds' w' => dsEq ds' ds (ap (zsOf S) J (vals B' e' S) w')) Q) B e ds w ∧
        filterK (writes x) e fun e1 => allT (zsOf S) fun vs => ∀ (B' : Base) (w' : World), ap (zsOf S) J vs w' → DR P A Y top y Q B' (bindS S vs e1) ds w'
  | top, .cond c x y, Q, B, e, ds, w => match ev B e c with
    | .bool b => PIf b (DR P A Y top x Q B e ds w) (DR P A Y top y Q B e ds w)
    | _ => False
  | top, .block id c, Q, B, e, ds, w => DR P A Y top c (blockQ id Q) B e ds w
  | top, .scope c, Q, B, e, ds, w => DR P A Y top c (scopeQ Q) B e ds w
  | top, .loop c, Q, B, e, ds, w => match seek A.loops (key c) with
    | none => False
    | some S => ∃ I : Nat → Fn (zsOf S) (World → Prop), (∃ m, ap (zsOf S) (I m) (vals B e S) w) ∧
        ∀ m, filterK (writes c) e fun e1 => allT (zsOf S) fun vs => ∀ (B' : Base) (w' : World), ap (zsOf S) (I m) vs w' →
          DR P A Y top c (seqQ (fun B' e' ds' w' => dsEq ds' ds (∃ m', m' < m ∧ ap (zsOf S) (I m') (vals B' e' S) w')) Q) B' (bindS S vs e1) ds w'
  | top, .rangeFunc f ps x y, Q, B, e, ds, w => match top with
    | false => False
    | true => match seek A.loops (key y) with
      | none => False
      | some S => must (eqL (fstL S) ps.toList && (calmC x && calmC y)) (RangeD P (ev B e f) (zsOf S) w
          (fun N K A0 => allA (zsOf S) fun vs => N vs → DR P A Y false x (seqQ (fun B' e' ds' w' => Keep (OffL w) A0 w' ∧ ∀ w2, Turn (w.heap.size + 1) w' w2 → DR P A Y false y (roundQ fun x w3 => Keep (OffL w) w2 w3 ∧ K vs x w3) B' e' ds' w2) (fun _ _ _ _ _ => False)) B (bindL (fstL S) vs e) [] A0)
          (fun A0 => Q .normal B e (markD w.heap.size :: ds) A0) (exK (fun x A0 => Q x B e (markD w.heap.size :: ds) A0) (exitsOf y)))
  | _, _, _, _, _, _, _ => False


def wrAll : Code → List Nat
  | .region _ ops _ => wrOps ops.toList
  | .seq x y => wrAll x ++ wrAll y
  | .cond _ x y => wrAll x ++ wrAll y
  | .block _ c => wrAll c
  | .loop c => wrAll c
  | .scope c => wrAll c
  | .rangeFunc _ ps x y => ps.toList ++ (wrAll x ++ wrAll y)
  | _ => []
theorem writes_wrAll : ∀ (c : Code) (t : Nat), t ∈ writes c → t ∈ wrAll c := by
  intro c
  induction c with
  | region id ops draw => intro t h; exact h
  | seq x y ihx ihy => intro t h; exact List.mem_append.2 ((List.mem_append.1 h).imp (ihx t) (ihy t))
  | cond c x y ihx ihy => intro t h; exact List.mem_append.2 ((List.mem_append.1 h).imp (ihx t) (ihy t))
  | block id c ih => exact ih
  | loop c ih => exact ih
  | scope c ih => exact ih
  | _ => intro t h; cases h

theorem allT_len : ∀ zs : List Value, allT zs fun l => l.length = zs.length := by
  have aux : ∀ (zs : List Value) (φ : List Value → Prop), (∀ l, l.length = zs.length → φ l) → allT zs φ := by
    intro zs
    induction zs with
    | nil => intro φ h; exact h [] rfl
    | cons z zs ih =>
      intro φ h
      cases z <;> simp only [allT] <;> intros <;> exact ih _ fun l hl => h _ (by simp [hl])
  exact fun zs => aux zs _ fun l h => h
theorem allA_len : ∀ (zs : List Value) (φ : List Value → Prop), (∀ l, l.length = zs.length → φ l) → allA zs φ := by
  have aux : ∀ (zs : List Value) (φ : List Value → Prop), (∀ l, l.length = zs.length → φ l) → allT zs φ := by
    intro zs
    induction zs with
    | nil => intro φ h; exact h [] rfl
    | cons z zs ih =>
      intro φ h
      cases z <;> simp only [allT] <;> intros <;> exact ih _ fun l hl => h _ (by simp [hl])
  intro zs
  induction zs with
  | nil => intro φ h; exact h [] rfl
  | cons z zs ih =>
    intro φ h
    cases z
    case agg cs => exact aux cs.toList _ fun l hl => ih _ fun r hr => h _ (by simp [hr])
    all_goals (simp only [allA]; exact aux [_] _ fun l hl => ih _ fun r hr => h _ (by have h1 : l.length = 1 := hl; simp [h1, hr, Nat.add_comm]))
theorem TypedA.len {zs vs : List Value} (h : TypedA zs vs) : vs.length = zs.length := h _ (allA_len zs _ fun _ h => h)

theorem fstL_len : ∀ S : List (Nat × Value), (fstL S).length = (zsOf S).length
  | [] => rfl
  | (_, _) :: r => by simp [fstL, zsOf, fstL_len r]

theorem bindL_rel {n : Nat} {B : Base} : ∀ (ts : List Nat) (vs : List Value) (e : Bnd) (tmps : Array Value), (∀ t ∈ ts, t < n) → vs.length = ts.length → Rel n B e { tmps := tmps, defers := [] } →
    Rel n B (bindL ts vs e) { tmps := (ts.zip vs).foldl (fun t (p : Nat × Value) => t.setIfInBounds p.1 p.2) tmps, defers := [] }
  | [], vs, e, tmps, _, hl, h => by
    cases vs with
    | nil => exact h
    | cons v vs => simp at hl
  | t :: ts, vs, e, tmps, ht, hl, h => by
    cases vs with
    | nil => simp at hl
    | cons v vs =>
      exact bindL_rel ts vs ((t, v) :: e) _ (fun u hu => ht u (List.mem_cons_of_mem _ hu)) (by simpa using hl) (h.put (some t) (fun u hu => by cases hu; exact ht t (List.mem_cons_self ..)) v)

theorem exitsOf_mem : ∀ (c : Code) (x : Exit), x ∈ exitsOf c → x = .ret ∨ ∃ id, x = .exit id := by
  intro c
  induction c with
  | exit id => intro x h; simp only [exitsOf, List.mem_singleton] at h; exact .inr ⟨id, h⟩
  | ret => intro x h; simp only [exitsOf, List.mem_singleton] at h; exact .inl h
  | seq x y ihx ihy => intro t h; exact (List.mem_append.1 h).elim (ihx t) (ihy t)
  | cond c x y ihx ihy => intro t h; exact (List.mem_append.1 h).elim (ihx t) (ihy t)
  | block id c ih => exact ih
  | loop c ih => exact ih
  | scope c ih => exact ih
  | _ => intro t h; cases h

theorem turn_put {w : World} {l : Nat} {o : Obj} : Turn l w (w.putObj l o) :=
  ⟨⟨rfl, rfl, rfl, by simp, fun k _ hk => World.putObj_heap_other hk⟩, by simp⟩
theorem Keep.obj {S : Nat → Prop} {w w' : World} {k : Nat} {o : Obj} (h : Keep S w w') (hk : w.heap[k]? = some o) (hS : ¬ S k) : w'.heap[k]? = some o :=
  (h.block k (Array.getElem?_eq_some_iff.1 hk).1 hS).trans hk

theorem PostA.of {n : Nat} {B : Base} {e : Bnd} {W : List Nat} {Q : Post} {x : Exit} {a : Act} {w : World} (hr : Rel n B e a) (h : Q x B e a.defers w) : PostA n B e W Q x a w := ⟨B, e, hr, fun _ _ => rfl, h⟩

theorem DR_wp {P : Program} (hm : P.follows .mixedOrders = true) {A : Ann} {Y : List Nat} {n m : Nat} : ∀ (c : Code) (ro : Option Nat) (top : Bool) (Q : Post) (B : Base) (e : Bnd) (a : Act) (w : World),
    (ro = none ∨ (top = false ∧ calmC c = true)) → (∀ t, t ∈ wrAll c → t < n) → (∀ x B e ds w, Q x B e ds w → x ≠ .outgrown) → Rel n B e a → DR P A Y top c Q B e a.defers w → c.wpIn (FW ro) m P (PostA n B e (writes c) Q) a w := by
  intro c
  induction c generalizing m with
  | skip => intro ro top Q B e a w _ _ _ hr h; exact wpIn_skip (PostA.of hr h)
  | label l => intro ro top Q B e a w _ _ _ hr h; exact wpIn_label (PostA.of hr h)
  | exit id => intro ro top Q B e a w _ _ _ hr h; exact wpIn_exit (PostA.of hr h)
  | ret => intro ro top Q B e a w _ _ _ hr h; exact wpIn_ret (PostA.of hr h)
  | goto l => intro ro top Q B e a w _ _ _ hr h; exact h.elim
  | refuse why => intro ro top Q B e a w _ _ _ hr h; exact h.elim
  | scope c ih =>
    intro ro top Q B e a w hro hw hQ hr h
    refine wpIn_scope (wpIn_mono (ih ro top (scopeQ Q) B e a w hro hw (by intro ex B e ds w hq he; subst he; exact hQ _ _ _ _ _ hq rfl) hr h) ?_)
    intro ex a' w' hp
    obtain ⟨B1, e1, hr1, hag1, hq⟩ := hp
    cases ex with
    | goto l => exact hq.elim
    | normal => exact ⟨B1, e1, hr1, hag1, hq⟩
    | exit id => exact ⟨B1, e1, hr1, hag1, hq⟩
    | ret => exact ⟨B1, e1, hr1, hag1, hq⟩
    | panic ch => exact ⟨B1, e1, hr1, hag1, hq⟩
    | outgrown => exact ⟨B1, e1, hr1, hag1, hq⟩
  | region id ops draw =>
    intro ro top Q B e a w hro hw hQ hr h
    have hd : ro = none ∨ ∀ o ∈ ops.toList, calmO o = true := hro.imp (fun h => h) fun h => by
      have := h.2
      unfold calmC at this
      exact List.all_eq_true.1 this
    have hQa : ∀ a' w', ¬ PostA n B e (writes (.region id ops draw)) Q .outgrown a' w' := fun a w ⟨B, e, _, _, hq⟩ => hQ _ _ _ _ _ hq rfl
    unfold DR at h
    split at h
    · split at h
      · have hl : ∀ o ∈ ops.toList, ∀ d, o.dst = some d → d < n ∧ d ∈ writes (.region id ops false) := fun o ho d hd => ⟨hw d (mem_wrOps ho hd), mem_wrOps ho hd⟩
        have hops : ∀ j t, gslot ops j = some t → t < n := by
          intro j t hj
          unfold gslot at hj
          cases ho : ops[j]? with
          | none => rw [ho] at hj; simp at hj
          | some o =>
            rw [ho] at hj
            have hmem : o ∈ ops.toList := by
              obtain ⟨hlt, rfl⟩ := Array.getElem?_eq_some_iff.1 ho
              simp
            exact (hl o hmem t hj).1
        refine wpIn_region ?_
        rw [List.range_eq_range', ← Array.length_toList]
        exact DOpsY_wp hops hQ hd ops.toList 0 e a w (by simp) hl hr (fun _ _ => rfl) h
      · exact h.elim
    · obtain ⟨h1, h2⟩ := region_ops hm (n := n) hw hr h
      cases draw with
      | false => exact wpIn_region (wpIn_ops hQa hd _ _ _ (h1 rfl))
      | true => exact wpIn_region_draw fun t => wpIn_ops hQa hd _ _ _ (h2 rfl t)
  | seq x y ihx ihy =>
    intro ro top Q B e a w hro hw hQ hr h
    have hrx : ro = none ∨ (top = false ∧ calmC x = true) := hro.imp (fun h => h) fun h => ⟨h.1, by have := h.2; simp only [calmC, Bool.and_eq_true] at this; exact this.1⟩
    have hry : ro = none ∨ (top = false ∧ calmC y = true) := hro.imp (fun h => h) fun h => ⟨h.1, by have := h.2; simp only [calmC, Bool.and_eq_true] at this; exact this.2⟩
    have hwx : ∀ t, t ∈ wrAll x → t < n := fun t ht => hw t (List.mem_append.2 (.inl ht))
    have hwy : ∀ t, t ∈ wrAll y → t < n := fun t ht => hw t (List.mem_append.2 (.inr ht))
    have other : ∀ (N : Base → Bnd → List Deferred → World → Prop) (ex : Exit) (a' : Act) (w' : World), ex ≠ .normal → PostA n B e (writes x) (seqQ N Q) ex a' w' → PostA n B e (writes (x.seq y)) Q ex a' w' := by
      intro N ex a' w' hne hp
      refine hp.mono (fun t ht => List.mem_append.2 (.inl ht)) (fun _ _ => rfl) fun B1 e1 ds1 w1 hq => ?_
      cases ex with
      | normal => exact absurd rfl hne
      | outgrown => exact hq.elim
      | _ => exact hq
    have hsq : ∀ (N : Base → Bnd → List Deferred → World → Prop) ex B e ds w, seqQ N Q ex B e ds w → ex ≠ .outgrown := by
      intro N ex B e ds w hq he
      subst he
      exact hq.elim
    unfold DR at h
    split at h
    · have hx := ihx (m := m) ro top _ B e a w hrx hwx (hsq _) hr h
      refine wpIn_seq (wpIn_mono hx ?_)
      intro ex a' w' hp
      cases ex with
      | normal =>
        obtain ⟨B1, e1, hr1, hag1, hq⟩ := hp
        have hy := ihy (m := m) ro top Q B1 e1 a' w' hry hwy hQ hr1 hq
        refine wpIn_mono hy (fun ex a'' w'' hp => ?_)
        refine hp.mono (fun t ht => List.mem_append.2 (.inr ht)) (fun t ht => hag1 t fun hm => ht (List.mem_append.2 (.inl hm))) fun _ _ _ _ hq => hq
      | exit id => exact other _ _ _ _ (by simp) hp
      | goto l => exact other _ _ _ _ (by simp) hp
      | ret => exact other _ _ _ _ (by simp) hp
      | panic ch => exact other _ _ _ _ (by simp) hp
      | outgrown => exact other _ _ _ _ (by simp) hp
    · rename_i S hS
      obtain ⟨J, h, hrest⟩ := h
      obtain ⟨e1, h1, h2, hrest⟩ := filterK.out hrest
      have hx := ihx (m := m) ro top _ B e a w hrx hwx (hsq _) hr h
      refine wpIn_seq (wpIn_mono hx ?_)
      intro ex a' w' hp
      cases ex with
      | normal =>
        obtain ⟨B2, e2, hr2, hag2, hq⟩ := hp
        obtain ⟨hds, hJ⟩ := dsEq.out hq
        have hv := vals_rel hr2 S
        have hlen := vals_length B2 e2 S
        have hy0 := ap.all hlen hJ hrest (fun t => a'.tmps.getD t undef) w' hJ
        rw [hv, ← hds] at hy0
        have hr3 := head_rel (n := n) S hr2.size h1 h2 (B0 := B) (fun t ht => (hr2.slot t).trans (hag2 t ht))
        have hy := ihy (m := m) ro top Q _ _ a' w' hry hwy hQ hr3 hy0
        refine wpIn_mono hy (fun ex a'' w'' hp => ?_)
        refine hp.mono (fun t ht => List.mem_append.2 (.inr ht)) (fun t ht => ?_) fun _ _ _ _ hq => hq
        rw [← hr3.slot]
        exact (hr2.slot t).trans (hag2 t fun hm => ht (List.mem_append.2 (.inl hm)))
      | exit id => exact other _ _ _ _ (by simp) hp
      | goto l => exact other _ _ _ _ (by simp) hp
      | ret => exact other _ _ _ _ (by simp) hp
      | panic ch => exact other _ _ _ _ (by simp) hp
      | outgrown => exact other _ _ _ _ (by simp) hp
  | cond c x y ihx ihy =>
    intro ro top Q B e a w hro hw hQ hr h
    have hrx : ro = none ∨ (top = false ∧ calmC x = true) := hro.imp (fun h => h) fun h => ⟨h.1, by have := h.2; simp only [calmC, Bool.and_eq_true] at this; exact this.1⟩
    have hry : ro = none ∨ (top = false ∧ calmC y = true) := hro.imp (fun h => h) fun h => ⟨h.1, by have := h.2; simp only [calmC, Bool.and_eq_true] at this; exact this.2⟩
    unfold DR at h
    split at h
    · rename_i b hb
      refine wpIn_cond_split (t := b) (by rw [hr.eval]; exact hb) (fun ht => ?_) (fun hf => ?_)
      · subst ht
        refine wpIn_mono (ihx ro top Q B e a w hrx (fun t ht => hw t (List.mem_append.2 (.inl ht))) hQ hr h) (fun ex a' w' hp => ?_)
        exact hp.mono (fun t ht => List.mem_append.2 (.inl ht)) (fun _ _ => rfl) fun _ _ _ _ hq => hq
      · subst hf
        refine wpIn_mono (ihy ro top Q B e a w hry (fun t ht => hw t (List.mem_append.2 (.inr ht))) hQ hr h) (fun ex a' w' hp => ?_)
        exact hp.mono (fun t ht => List.mem_append.2 (.inr ht)) (fun _ _ => rfl) fun _ _ _ _ hq => hq
    · exact h.elim
  | block id c ih =>
    intro ro top Q B e a w hro hw hQ hr h
    refine wpIn_block (wpIn_mono (ih ro top (blockQ id Q) B e a w hro hw (by intro ex B e ds w hq he; subst he; exact hq.elim) hr h) ?_)
    intro ex a' w' hp
    obtain ⟨B1, e1, hr1, hag1, hq⟩ := hp
    cases ex with
    | exit id' =>
      show (if id' = id then _ else _)
      simp only [blockQ] at hq
      cases hb : Nat.beq id' id with
      | true =>
        rw [hb] at hq
        rw [if_pos (Nat.eq_of_beq_eq_true hb)]
        exact ⟨B1, e1, hr1, hag1, hq⟩
      | false =>
        rw [hb] at hq
        rw [if_neg (by rintro rfl; simp at hb)]
        exact ⟨B1, e1, hr1, hag1, hq⟩
    | normal => exact ⟨B1, e1, hr1, hag1, hq⟩
    | goto l => exact ⟨B1, e1, hr1, hag1, hq⟩
    | ret => exact ⟨B1, e1, hr1, hag1, hq⟩
    | panic ch => exact ⟨B1, e1, hr1, hag1, hq⟩
    | outgrown => exact hq.elim
  | loop c ih =>
    intro ro top Q B e a w hro hw hQ hr h
    unfold DR at h
    split at h
    · exact h.elim
    · rename_i S hS
      obtain ⟨I, ⟨m0, h0⟩, hround⟩ := h
      refine wpIn_loop_ghost (fun m a' w' => a'.tmps.size = n ∧ (∀ t, t ∉ writes c → a'.tmps.getD t undef = get B e t) ∧ a'.defers = a.defers ∧
        ap (zsOf S) (I m) (S.map fun p => a'.tmps.getD p.1 undef) w') m0 ⟨hr.size, fun t _ => hr.slot t, rfl, by rw [← vals_rel hr S]; exact h0⟩ ?_
      rintro mm a' w' ⟨hsz, hag, hds, hI⟩
      obtain ⟨e1, h1, h2, hr0⟩ := filterK.out (hround mm)
      have hlen : (S.map fun p => a'.tmps.getD p.1 undef).length = (zsOf S).length := by rw [← vals_length B e S, vals_eq]; simp
      have hb := ap.all hlen hI hr0 (fun t => a'.tmps.getD t undef) w' hI
      have hrel := head_rel (n := n) S hsz h1 h2 hag
      rw [← hds] at hb
      have hbody := ih (m := m) ro top _ _ _ a' w' hro hw (by intro ex B e ds w hq he; subst he; exact hq.elim) hrel hb
      refine wpIn_mono hbody ?_
      intro ex a'' w'' hp
      obtain ⟨B2, e2, hr2, hag2, hq⟩ := hp
      have hag3 : ∀ t, t ∉ writes c → get B2 e2 t = get B e t := fun t ht => (hag2 t ht).trans ((hrel.slot t).symm.trans (hag t ht))
      cases ex with
      | normal =>
        obtain ⟨hds2, m', hlt, hI'⟩ := dsEq.out hq
        refine ⟨m', hlt, hr2.size, fun t ht => (hr2.slot t).trans (hag3 t ht), hds2.trans hds, ?_⟩
        rw [← vals_rel hr2 S]
        exact hI'
      | outgrown => exact hq.elim
      | exit id => exact ⟨B2, e2, hr2, hag3, hq⟩
      | goto l => exact ⟨B2, e2, hr2, hag3, hq⟩
      | ret => exact ⟨B2, e2, hr2, hag3, hq⟩
      | panic ch => exact ⟨B2, e2, hr2, hag3, hq⟩
  | rangeFunc f ps x y ihx ihy =>
    intro ro top Q B e a w hro hw hQ hr h
    unfold DR at h
    split at h
    · exact h.elim
    obtain rfl : ro = none := hro.resolve_right fun h => by cases h.1
    split at h
    · exact h.elim
    rename_i S hS
    obtain ⟨hchk, h⟩ := must.out h
    simp only [Bool.and_eq_true] at hchk
    obtain ⟨hps, hcx, hcy⟩ := hchk
    have hps := eqL.out hps
    obtain ⟨g, cap, hfv, hen, σ, s0, J, Jx, N, T, hJ0, hJt, hJxt, hbody, hit, hdone, hstop⟩ := h
    have hwx : ∀ t, t ∈ wrAll x → t < n := fun t ht => hw t (List.mem_append.2 (.inr (List.mem_append.2 (.inl ht))))
    have hwy : ∀ t, t ∈ wrAll y → t < n := fun t ht => hw t (List.mem_append.2 (.inr (List.mem_append.2 (.inr ht))))
    have hwp : ∀ t, t ∈ ps.toList → t < n := fun t ht => hw t (List.mem_append.2 (.inl ht))
    refine wpIn_rangeFunc ?_
    intro fn _
    obtain ⟨rec, hrec⟩ : ∃ rec : LoopState → Option Code → Loop, rec = fun st pe => { state := st, pending := pe, fn, tmps := a.tmps, params := ps, assign := x, body := y, defers := w.heap.size } := ⟨_, rfl⟩
    obtain ⟨W1, hW1⟩ : ∃ W1, (w.alloc (.deferred (some []))).alloc (.loop (rec .ready none)) = W1 := ⟨_, rfl⟩
    have hL1 : W1.heap[w.heap.size + 1]? = some (.loop (rec .ready none)) := by
      rw [← hW1]; have := World.alloc_heap_new (w.alloc (.deferred (some []))) (.loop (rec .ready none)); rwa [World.size_alloc] at this
    have hK1 : W1.heap[w.heap.size]? = some (.deferred (some [])) := by
      rw [← hW1]; exact (Go.RowKit.Below.heap_alloc _ _ _ (by simp)).trans (World.alloc_heap_new w _)
    have hsz1 : W1.heap.size = w.heap.size + 2 := by rw [← hW1]; simp
    have hkw : Keep (fun _ => False) w W1 := by
      rw [← hW1]
      exact ⟨rfl, rfl, rfl, by simp; omega, fun k hk _ => (Go.RowKit.Below.heap_alloc _ _ _ (by simp; omega)).trans (Go.RowKit.Below.heap_alloc w _ k hk)⟩
    let R : World → Prop := fun A => A.heap[w.heap.size + 1]? = some (.loop (rec .ready none)) ∧ A.heap[w.heap.size]? = some (.deferred (some []))
    let Rx : Exit → World → Prop := fun x A => inK x (exK (fun x A0 => Q x B e (markD w.heap.size :: a.defers) A0) (exitsOf y)) ∧ A.heap[w.heap.size + 1]? = some (.loop (rec .done (some (codeOf x)))) ∧ A.heap[w.heap.size]? = some (.deferred (some []))
    have hoff : ∀ {A B : World} {o o' : Obj}, Keep (OffL w) A B → A.heap[w.heap.size + 1]? = some o → A.heap[w.heap.size]? = some o' → B.heap[w.heap.size + 1]? = some o ∧ B.heap[w.heap.size]? = some o' := fun hk h1 h2 =>
      ⟨hk.obj h1 fun h => h.2 rfl, hk.obj h2 fun h => h.1 rfl⟩
    refine ⟨w.heap.size + 1, [markD w.heap.size], W1, { target := .fn (.func g) cap, args := #[.func (.yield (w.heap.size + 1)) #[] #[]] }, W1, g, #[.func (.yield (w.heap.size + 1)) #[] #[]] ++ cap, W1, ?_, ?_, fun _ _ => trivial, ?_, fun h => by simp [Fence.wide] at h, ?_⟩
    · rw [← hW1, hrec]; exact run_enterLoop_outer _ _ _ _ _
    · have hg : a.eval f = .func (.func g) #[] cap := by rw [hr.eval]; exact hfv
      simp only [resolve, hg]
      simp [go_sem]
    · simp only [invoke]; exact callFunc_run hen _ _
    refine callsIn_FW.2 (Calls.mono (hit R Rx (fun A B h hk => hoff hk h.1 h.2) (fun x A B h hk => ⟨h.1, hoff hk h.2.1 h.2.2⟩) (fun A h => by have := (Array.getElem?_eq_some_iff.1 h.1).1; omega) ?_ W1 (hJ0 W1 hkw hsz1) ⟨hL1, hK1⟩) ?_)
    · /- a round -/
      rintro s pre vs A1 hj ⟨hl, hk⟩ hty hN
      have hlen := hty.len
      have hlp : vs.length = ps.toList.length := by rw [hlen, ← hps, fstL_len]
      have hy := run_yield (P := P) (args := vs.toArray) hl (by rw [hrec]; simpa using hlp)
      rw [hrec] at hy
      refine ⟨fn, _, x, y, hy, roundIn_of_wpIn trivial ?_⟩
      have hb := hty _ (hbody s pre A1 hj (by have := (Array.getElem?_eq_some_iff.1 hl).1; omega)) hN
      have hrel : Rel n B (bindL (fstL S) vs e) { tmps := (ps.zip vs.toArray).foldl (fun tmps (x : Tmp × Value) => tmps.setIfInBounds x.1 x.2) a.tmps, defers := [] } := by
        have h0 : Rel n B e { tmps := a.tmps, defers := [] } := ⟨hr.size, hr.slot⟩
        have := bindL_rel ps.toList vs e a.tmps hwp hlp h0
        rw [hps]
        have e1 : (ps.zip vs.toArray).foldl (fun tmps (x : Tmp × Value) => tmps.setIfInBounds x.1 x.2) a.tmps = (ps.toList.zip vs).foldl (fun t (p : Nat × Value) => t.setIfInBounds p.1 p.2) a.tmps := by
          rw [← Array.foldl_toList, Array.toList_zip]
        rw [e1]; exact this
      have hx := ihx (m := 0) (some (w.heap.size + 1)) false _ B _ _ A1 (.inr ⟨rfl, hcx⟩) hwx (by intro ex B e ds w hq he; subst he; exact hq.elim) hrel hb
      refine wpIn_mono hx ?_
      intro ex a1 A2 hp
      obtain ⟨B1, e1, hr1, -, hq⟩ := hp
      cases ex with
      | exit id => exact hq.elim
      | goto l => exact hq.elim
      | ret => exact hq.elim
      | panic ch => exact hq.elim
      | outgrown => exact hq.elim
      | normal =>
        obtain ⟨hk2, hq⟩ := hq
        obtain ⟨hl2, hd2⟩ := hoff hk2 hl hk
        refine ⟨_, run_beginRound hl2 (by rw [hrec]), ?_⟩
        have hq := hq _ (turn_put (w := A2) (l := w.heap.size + 1) (o := .loop { rec .ready none with state := .busy }))
        have hl3 : (A2.putObj (w.heap.size + 1) (.loop { rec .ready none with state := .busy })).heap[w.heap.size + 1]? = some (.loop { rec .ready none with state := .busy }) := World.putObj_heap_same (Array.getElem?_eq_some_iff.1 hl2).1
        have hd3 : (A2.putObj (w.heap.size + 1) (.loop { rec .ready none with state := .busy })).heap[w.heap.size]? = some (.deferred (some [])) := (World.putObj_heap_other (by omega)).trans hd2
        generalize A2.putObj (w.heap.size + 1) (.loop { rec .ready none with state := .busy }) = A3 at hq hl3 hd3
        have hy := ihy (m := 0) (some (w.heap.size + 1)) false _ B1 e1 a1 A3 (.inr ⟨rfl, hcy⟩) hwy (by intro ex B e ds w hq he; subst he; exact hq.elim) hr1 hq
        refine wpIn_mono hy ?_
        have fin : ∀ (jump : Option Code) (A4 : World), Keep (OffL w) A3 A4 →
            (Instr.endRound (w.heap.size + 1) jump).run P A4 = .ok (.bool jump.isNone) (A4.putObj (w.heap.size + 1) (.loop (rec (if jump.isNone then .ready else .done) jump))) ∧
            (A4.putObj (w.heap.size + 1) (.loop (rec (if jump.isNone then .ready else .done) jump))).heap[w.heap.size + 1]? = some (.loop (rec (if jump.isNone then .ready else .done) jump)) ∧
            (A4.putObj (w.heap.size + 1) (.loop (rec (if jump.isNone then .ready else .done) jump))).heap[w.heap.size]? = some (.deferred (some [])) := fun jump A4 hk4 => by
          obtain ⟨hl4, hd4⟩ := hoff hk4 hl3 hd3
          have := run_endRound (P := P) jump hl4
          rw [hrec] at this ⊢
          exact ⟨this, World.putObj_heap_same (Array.getElem?_eq_some_iff.1 hl4).1, (World.putObj_heap_other (by omega)).trans hd4⟩
        intro ex a4 A4 hp
        obtain ⟨B4, e4, hr4, -, hq4⟩ := hp
        cases ex with
        | normal =>
          obtain ⟨hk4, hj4⟩ := hq4
          obtain ⟨f1, f2, f3⟩ := fin none A4 hk4
          exact ⟨_, _, f1, true, rfl, .inl ⟨rfl, hJt _ _ _ _ hj4 turn_put, f2, f3⟩⟩
        | ret =>
          obtain ⟨hk4, hm4, hj4⟩ := hq4
          obtain ⟨f1, f2, f3⟩ := fin (some .ret) A4 hk4
          exact ⟨_, _, f1, false, rfl, .inr ⟨rfl, .ret, hJxt _ _ _ _ hj4 turn_put, hm4, f2, f3⟩⟩
        | exit id =>
          obtain ⟨hk4, hm4, hj4⟩ := hq4
          obtain ⟨f1, f2, f3⟩ := fin (some (.exit id)) A4 hk4
          exact ⟨_, _, f1, false, rfl, .inr ⟨rfl, .exit id, hJxt _ _ _ _ hj4 turn_put, hm4, f2, f3⟩⟩
        | goto t => exact hq4.elim
        | panic ch => exact hq4.elim
        | outgrown => exact hq4.elim
    · /- behind the iterator -/
      rintro ed A2 ⟨⟨v, rfl⟩, (⟨⟨hl, hk⟩, s, all, hj, hT⟩ | ⟨x1, pre, hj, hx1, hl, hk⟩)⟩
      · refine ⟨none, _, by have := run_endLoop (P := P) hl (by rw [hrec]; simp); rw [hrec] at this; exact this, ?_⟩
        exact PostA.of (hr.defers _) (hdone s all _ (hJt _ _ _ _ hj turn_put) hT ((World.putObj_heap_other (by omega)).trans hk))
      · refine ⟨some (codeOf x1), _, by have := run_endLoop (P := P) hl (by rw [hrec]; simp); rw [hrec] at this; exact this, ?_⟩
        obtain ⟨hx2, hq⟩ := allK.out hstop x1 hx1
        rcases exitsOf_mem y x1 hx2 with rfl | ⟨id, rfl⟩
        · exact wpIn_ret (PostA.of (hr.defers _) (hq pre _ (hJxt .ret pre A2 _ hj turn_put) ((World.putObj_heap_other (by omega)).trans hk)))
        · exact wpIn_exit (PostA.of (hr.defers _) (hq pre _ (hJxt (.exit id) pre A2 _ hj turn_put) ((World.putObj_heap_other (by omega)).trans hk)))

/-! ### a call -/

/-- what was deferred is marks alone -/
def LvM (ret : World → Prop) : List Deferred → World → Prop
  | [], w => ret w
  | d :: ds, w => match d.target with
    | .collected r => Marked r w ∧ ∀ w', Turn r w w' → LvM ret ds w'
    | _ => False
def topQM (P : Program) (fn : Func) (R : Ending → World → Prop) : Post := fun x B e ds w => match x with
  | .normal => LvM (fun w => resK P fn.results.toList B e w fun l => R (.returned (oneOf l)) w) ds w
  | .ret => LvM (fun w => resK P fn.results.toList B e w fun l => R (.returned (oneOf l)) w) ds w
  | .panic ch => LvM (fun w => R (.panicked ch) w) ds w
  | _ => False

theorem leavesM_of {P : Program} {fn : Func} {tmps : Array Value} {R : Ending → World → Prop} {ret : World → Prop} {u : FrameMode} (hu : u ≠ .run) {n : Nat} (h0 : ∀ w, ret w → LeavesIn (FW none) n P fn tmps R [] u w) : ∀ (ds : List Deferred) (w : World), LvM ret ds w → LeavesInM (FW none) n P fn tmps R ds u w
  | [], w, h => h0 w h
  | d :: ds, w, h => by
    unfold LvM at h
    split at h
    · rename_i r hr
      obtain ⟨hk, h⟩ := h
      exact ⟨hu, .inl ⟨r, _, hr, run_takeDeferred hk, leavesM_of hu h0 ds _ (h _ turn_put)⟩⟩
    · exact h.elim

/-- THE FORMULA IS ENOUGH -/
theorem DR_calls {P : Program} (A : Ann) (Y : List Nat) {f : FuncId} {fn : Func} {c : Code} {args : Array Value} {w : World} {R : Ending → World → Prop} (hm : P.follows .mixedOrders = true)
    (hf : P.funcs[f]? = some fn) (hb : fn.body = some c) (hn : args.size ≤ fn.ntmps) (hw : allLt fn.ntmps (wrAll c) = true)
    (h : DR P A Y true c (topQM P fn R) (fun _ => undef) (bindArgs 0 args.toList) [] w) : Calls P f args w R := by
  refine callsIn_FW.1 (callsIn_of_wp_marks (F := FW none) (n := 0) hf hb trivial (wpIn_mono (DR_wp hm c none true (topQM P fn R) _ _ _ w (.inl rfl) (allLt_spec hw) (by intro x B e ds w hq he; subst he; exact hq.elim) (enter_rel hn []) h) ?_))
  rintro x a' w' ⟨B, e, hr, _, hq⟩
  have hret : ∀ w, (resK P fn.results.toList B e w fun l => R (.returned (oneOf l)) w) → LeavesIn (FW none) 0 P fn a'.tmps R [] .returning w := fun w h => by
    obtain ⟨l, hl, h⟩ := resK_run hr h
    exact ⟨_, results_run hl, h⟩
  cases x with
  | normal => exact leavesM_of (by simp) hret _ _ hq
  | ret => exact leavesM_of (by simp) hret _ _ hq
  | panic ch => exact leavesM_of (by simp) (fun w h => h) _ _ hq
  | exit id => exact hq.elim
  | goto l => exact hq.elim
  | outgrown => exact hq.elim
end Go.Lift
