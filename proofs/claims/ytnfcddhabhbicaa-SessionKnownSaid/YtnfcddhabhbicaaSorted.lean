/- slices.Sorted(maps.Keys(m)) at keys that are numbers -/
import Derived.Test.YtnfcddhabhbicaaShelf
import Derived.Test.YtnfcddhabhbicaaMaps
import Derived.Test.YtnfcddhabhbicaaCode
import Derived.Test.YtnfcddhabhbicaaVec
namespace Go.Proofs
open Go.RowKit Go.Maps Go.Sort Go.Shelf
theorem Try.sortsA (m : Nat) : AnyZI.SortsIn Try.prog Try.sortedA_ren Fence.wide m :=
  ⟨fun blk off cap ss W hH hblk hsz => callsIn_wide.2 (AnyM.slices_Sort_int Try.sortA blk off cap ss W hH hblk hsz),
   fun p cap W => callsIn_wide.2 (AnyM.slices_Sort_int_none Try.sortA p cap W)⟩
end Go.Proofs
namespace Go.Proofs.Ytnfcddhabhbicaa
open Go.Lift
open Go.RowKit Go.Maps Go.Sort Go.Shelf
set_option linter.unusedVariables false

def sortI (xs : List Int) : List Int := xs.mergeSort (fun x y => decide (x ≤ y))

theorem slices_Sorted_I {w : World} {r : Nat} {l : List (Int × Value)} (h : MapAt w r (Value.int .i64) l) (hk : ∀ p ∈ l, I64 p.1) (hsz : l.length * 8 ≤ Big) {g : Nat} {T : TypeId} {f : Nat × Nat}
    (hg : w.heap[g]? = some (.cells #[.map (some r)] T f)) :
    Calls Try.prog 35 #[.func (.func 44) #[] #[.pointer (some ⟨g, 0, none⟩)]] w
      (Ok fun v w' => NewInts w 3 (sortI (l.map (·.1))) v w') := by
  unfold Big at hsz
  obtain ⟨es, clock, hb, hes, hborn, hnd⟩ := h.at'
  have hk3 : Try.prog.underlying 3 = some (.int .i64) := Try.underlying3
  have hlen : es.size = l.length := by have := congrArg List.length hes; simpa using this
  have hwf : ∀ x : Int, I64 x → (Lit.int .i64 x).wf = true := fun x hx => by unfold I64 at hx; simp [Lit.wf, IntKind.min, IntKind.max, IntKind.signed, IntKind.bits]; omega
  have hpart : ∀ e ∈ es.toList, ∃ x, e.key = Value.int .i64 x ∧ I64 x := fun e he => by
    have hm : (e.key, e.val) ∈ l.map (fun p => (Value.int .i64 p.1, p.2)) := by rw [← hes]; exact List.mem_map.2 ⟨e, he, rfl⟩
    obtain ⟨p, hp, hpe⟩ := List.mem_map.1 hm
    exact ⟨p.1, (Prod.mk.inj hpe).1.symm, hk p hp⟩
  have hrd : ∀ e ∈ es.toList, ∀ x, e.key = Value.int .i64 x → I64 x → WideElems.rd Try.prog 3 (fun _ => some ((.nil : DataW Unit), [])) e = some (.int .i64 x, .nil) := fun e _ x hx hi => by
    simp [WideElems.rd, hx, Maps.keyOf_int_mk hk3 (hwf x hi)]
  have hfit : WideElems.Fit Try.prog 3 (fun _ => some ((.nil : DataW Unit), [])) es clock := by
    refine ⟨by unfold maxLen; omega, ⟨hborn, hnd, ?_⟩, fun e he => ?_⟩
    · have : es.toList.map (·.key) = (l.map (·.1)).map (Value.int .i64) := by
        have := congrArg (List.map (fun q : Value × Value => q.1)) hes
        simpa [Function.comp_def] using this
      rw [this]
      exact List.pairwise_map.2 (List.Pairwise.imp (fun hne => by simpa using hne) h.tidy)
    · obtain ⟨x, hx, hi⟩ := hpart e he
      exact ⟨_, hrd e he x hx hi⟩
  have hown : w.ownsMap Try.prog 3 (fun _ => some ((.nil : DataW Unit), [])) r es.size (.map ((es.toList.map (WideElems.rg Try.prog 3 (fun _ => some ((.nil : DataW Unit), [])))).foldr DataW.insert [])) :=
    ⟨es, clock, hb, hfit, Nat.le_refl _, rfl⟩
  have hsize : Maps.size (.map ((es.toList.map (WideElems.rg Try.prog 3 (fun _ => some ((.nil : DataW Unit), [])))).foldr DataW.insert [])) = l.length := by
    show (List.foldr DataW.insert [] _).length = _
    rw [(WideShapes.sorted_perm _).length_eq]
    simp [hlen]
  have hkeys : (intKeys (.map ((es.toList.map (WideElems.rg Try.prog 3 (fun _ => some ((.nil : DataW Unit), [])))).foldr DataW.insert []))).Perm (l.map (·.1)) := by
    refine (List.Perm.map (fun p : Lit × DataW Unit => Go.intOf p.1) (WideShapes.sorted_perm _)).trans ?_
    have : (es.toList.map (WideElems.rg Try.prog 3 (fun _ => some ((.nil : DataW Unit), [])))).map (fun p => Go.intOf p.1) = l.map (·.1) := by
      have h1 : es.toList.map (fun e => match e.key with | .int _ x => x | _ => 0) = l.map (·.1) := by
        have := congrArg (List.map (fun q : Value × Value => match q.1 with | .int _ x => x | _ => 0)) hes
        simpa [Function.comp_def] using this
      rw [← h1, List.map_map]
      refine List.map_congr_left fun e he => ?_
      obtain ⟨x, hx, hi⟩ := hpart e he
      simp [WideElems.rg, hrd e he x hx hi, hx, Go.intOf]
    rw [this]
  have hseq : SeqGives Fence.wide 1 Try.prog 44 #[.pointer (some ⟨g, 0, none⟩)] encZ (fun ss => ss.Perm (intKeys _)) (Maps.size _) w :=
    AnyZI.keys_gives (ρ := Try.keysA_ren) { Try.keysA with } Fence.wide _ trivial rfl (by omega) g r es.size _ w (lt_of_get hg) (cell_at hg rfl) hown
  have cS := AnyZI.sorted_in Try.sortedA Fence.wide 4 trivial trivial trivial trivial rfl (by omega) (Try.sortsA _) (enters_of Try.func43 (by kernel_rfl) rfl) 44 #[.pointer (some ⟨g, 0, none⟩)] trivial
    (enters_of Try.func44 (by kernel_rfl) rfl) _ _ (by rw [hsize]; unfold maxLen; omega) (by rw [hsize]; exact hsz) w hseq
  refine ((callsIn_wide (n := 4)).1 cS).mono ?_
  rintro e w' ⟨v, ss, rfl, hS, hrow, hnil, hb'⟩
  have hsame : ss.mergeSort (fun x y => decide (x ≤ y)) = sortI (l.map (·.1)) := mergeSort_of_perm_i (hS.trans hkeys)
  have hln : ss.length = (sortI (l.map (·.1))).length := by rw [← hsame]; simp
  rw [hsame] at hrow
  have hv : ∃ a c, v = .slice a ss.length c := by
    rcases hrow.2 with ⟨rfl, h0⟩ | ⟨g', cap, cur, rfl, _⟩
    · exact ⟨none, 0, by rw [h0]⟩
    · exact ⟨_, _, rfl⟩
  obtain ⟨a, c, rfl⟩ := hv
  refine Ok.mk ⟨a, _, c, rfl, ⟨ownsRow_base_a hrow (Nat.zero_le _)⟩, Keep.of_below hb', fun b hbk => ?_⟩
  rcases hrow.2 with ⟨he, _⟩ | ⟨g', cap, cur, he, hle, _⟩
  · simp only [Value.slice.injEq] at he
    rw [he.1] at hbk; cases hbk
  · simp only [Value.slice.injEq] at he
    rw [he.1] at hbk
    simp only [blk, Option.some.injEq] at hbk
    omega
end Go.Proofs.Ytnfcddhabhbicaa
