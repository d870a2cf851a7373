/- slices.Sorted(maps.Keys(m)) at keys that are texts -/
import Derived.Test.YtpbpjojdfcdbbaaGreatDoorShelf
import Derived.Test.YtpbpjojdfcdbbaaGreatDoorKitTexts
import Derived.Test.YtpbpjojdfcdbbaaGreatDoorRange
import Derived.StringKeys
namespace Go.Proofs
open Go.RowKit Go.Maps Go.Sort Go.Shelf
theorem Tryz.sortsA (m : Nat) : AnyZ.SortsIn Tryz.prog Tryz.sortedA_ren Fence.wide m :=
  ⟨fun blk off cap ss W hH hblk hsz => callsIn_wide.2 (AnyM.slices_Sort_string Tryz.sortA blk off cap ss W hH hblk hsz),
   fun p cap W => callsIn_wide.2 (AnyM.slices_Sort_string_none Tryz.sortA p cap W)⟩
end Go.Proofs
namespace Go.Proofs.YtpbpjojdfcdbbaaGreatDoor
open Go.Lift
open Go.RowKit Go.Maps Go.Sort Go.Shelf
set_option linter.unusedVariables false
set_option maxRecDepth 20000

def leS (x y : ByteArray) : Bool := decide (x.data.toList ≤ y.data.toList)
def sortS (xs : List ByteArray) : List ByteArray := xs.mergeSort leS

theorem sortS_map (xs : List ByteArray) : (sortS xs).map (fun x => x.data.toList) = (xs.map fun x => x.data.toList).mergeSort (fun x y => decide (x ≤ y)) :=
  List.map_mergeSort (fun a _ b _ => rfl)

theorem Reps.flat1 {α : Type} {enc : α → Value} {ok : α → Prop} {hl h1} {w : World} {D : Nat → Prop} : ∀ {xs : List α}, (∀ x ∈ xs, ok x) → Reps (flat 1 (fun x => [enc x]) ok hl h1) w D xs (xs.map enc)
  | [], _ => rfl
  | x :: xs, h => ⟨[enc x], xs.map enc, rfl, ⟨rfl, h x (List.mem_cons_self ..)⟩, Reps.flat1 fun y hy => h y (List.mem_cons_of_mem _ hy)⟩

theorem slices_Sorted_S {w : World} {r : Nat} {l : List (ByteArray × Value)} (h : MapAt w r Value.string l) (hk : ∀ p ∈ l, p.1.size ≤ maxLen) (hsz : l.length * 16 ≤ Big) {g : Nat} {T : TypeId} {f : Nat × Nat}
    (hg : w.heap[g]? = some (.cells #[.map (some r)] T f)) :
    Calls Tryz.prog 77 #[.func (.func 120) #[] #[.pointer (some ⟨g, 0, none⟩)]] w
      (Ok (New cStr 9 w (sortS (l.map (·.1))))) := by
  unfold Big at hsz
  obtain ⟨es, clock, hb, hes, hborn, hnd⟩ := h.at'
  have hk3 : Tryz.prog.underlying 9 = some .string := Tryz.underlying9
  have hlen : es.size = l.length := by have := congrArg List.length hes; simpa using this
  have hpart : ∀ e ∈ es.toList, ∃ x : ByteArray, e.key = Value.string x ∧ x.size ≤ maxLen := fun e he => by
    have hm : (e.key, e.val) ∈ l.map (fun p => (Value.string p.1, p.2)) := by rw [← hes]; exact List.mem_map.2 ⟨e, he, rfl⟩
    obtain ⟨p, hp, hpe⟩ := List.mem_map.1 hm
    exact ⟨p.1, (Prod.mk.inj hpe).1.symm, hk p hp⟩
  have hrd : ∀ e ∈ es.toList, ∀ x : ByteArray, e.key = Value.string x → x.size ≤ maxLen → WideElems.rd Tryz.prog 9 (fun _ => some ((.nil : DataW Unit), [])) e = some (.string x.data.toList, .nil) := fun e _ x hx hi => by
    simp [WideElems.rd, hx, Go.WideMaps.keyOf_string_mk hk3 hi]
  have hfit : WideElems.Fit Tryz.prog 9 (fun _ => some ((.nil : DataW Unit), [])) es clock := by
    refine ⟨by unfold maxLen; omega, ⟨hborn, hnd, ?_⟩, fun e he => ?_⟩
    · have : es.toList.map (·.key) = (l.map (·.1)).map Value.string := by
        have := congrArg (List.map (fun q : Value × Value => q.1)) hes
        simpa [Function.comp_def] using this
      rw [this]
      exact List.pairwise_map.2 (List.Pairwise.imp (fun hne => by simpa using hne) h.tidy)
    · obtain ⟨x, hx, hi⟩ := hpart e he
      exact ⟨_, hrd e he x hx hi⟩
  have hown : w.ownsMap Tryz.prog 9 (fun _ => some ((.nil : DataW Unit), [])) r es.size (.map ((es.toList.map (WideElems.rg Tryz.prog 9 (fun _ => some ((.nil : DataW Unit), [])))).foldr DataW.insert [])) :=
    ⟨es, clock, hb, hfit, Nat.le_refl _, rfl⟩
  have hsize : Maps.size (.map ((es.toList.map (WideElems.rg Tryz.prog 9 (fun _ => some ((.nil : DataW Unit), [])))).foldr DataW.insert [])) = l.length := by
    show (List.foldr DataW.insert [] _).length = _
    rw [(WideShapes.sorted_perm _).length_eq]
    simp [hlen]
  have hkeys : (strKeys (.map ((es.toList.map (WideElems.rg Tryz.prog 9 (fun _ => some ((.nil : DataW Unit), [])))).foldr DataW.insert []))).Perm ((l.map (·.1)).map fun x => x.data.toList) := by
    refine (List.Perm.map (fun p : Lit × DataW Unit => Go.strOf p.1) (WideShapes.sorted_perm _)).trans ?_
    have : (es.toList.map (WideElems.rg Tryz.prog 9 (fun _ => some ((.nil : DataW Unit), [])))).map (fun p => Go.strOf p.1) = (l.map (·.1)).map fun x => x.data.toList := by
      have h1 : es.toList.map (fun e => match e.key with | .string x => x.data.toList | _ => []) = (l.map (·.1)).map fun x => x.data.toList := by
        have := congrArg (List.map (fun q : Value × Value => match q.1 with | .string x => x.data.toList | _ => [])) hes
        simpa [Function.comp_def] using this
      rw [← h1, List.map_map]
      refine List.map_congr_left fun e he => ?_
      obtain ⟨x, hx, hi⟩ := hpart e he
      simp [WideElems.rg, hrd e he x hx hi, hx, Go.strOf]
    rw [this]
  have hseq : SeqGives Fence.wide 1 Tryz.prog 120 #[.pointer (some ⟨g, 0, none⟩)] encStr (fun ss => ss.Perm (strKeys _)) (Maps.size _) w :=
    AnyZ.keys_gives (ρ := Tryz.keysA_ren) { Tryz.keysA with } Fence.wide _ trivial rfl (by omega) g r es.size _ w (lt_of_get hg) (cell_at hg rfl) hown
  have cS := AnyZ.sorted_in Tryz.sortedA Fence.wide 4 trivial trivial trivial trivial rfl (by omega) (Tryz.sortsA _) (enters_of Tryz.func119 (by kernel_rfl) rfl) 120 #[.pointer (some ⟨g, 0, none⟩)] trivial
    (enters_of Tryz.func120 (by kernel_rfl) rfl) _ _ (by rw [hsize]; unfold maxLen; omega) (by rw [hsize]; exact hsz) w hseq
  refine ((callsIn_wide (n := 4)).1 cS).mono ?_
  rintro e w' ⟨v, ss, rfl, hS, hrow, hnil, hb'⟩
  have hsame : ss.mergeSort (fun x y => decide (x ≤ y)) = (sortS (l.map (·.1))).map fun x => x.data.toList := by rw [sortS_map]; exact Go.mergeSort_of_perm (hS.trans hkeys)
  have hln : ss.length = (sortS (l.map (·.1))).length := by
    have := congrArg List.length hsame
    simpa using this
  have hcells : ((ss.mergeSort (fun x y => decide (x ≤ y))).map encStr) = (sortS (l.map (·.1))).map Value.string := by
    rw [hsame, List.map_map]
    refine List.map_congr_left fun x _ => ?_
    show Value.string ⟨x.data.toList.toArray⟩ = Value.string x
    simp
  rw [hcells] at hrow
  have hv : ∃ a c, v = .slice a ss.length c := by
    rcases hrow.2 with ⟨rfl, h0⟩ | ⟨g', cap, cur, rfl, _⟩
    · exact ⟨none, 0, by rw [h0]⟩
    · exact ⟨_, _, rfl⟩
  obtain ⟨a, c, rfl⟩ := hv
  have hblk : ∀ b, blk a = some b → w.heap.size ≤ b ∧ b < w'.heap.size := fun b hbk => by
    rcases hrow.2 with ⟨he, _⟩ | ⟨g', cap, cur, he, hle, hgg, _⟩
    · simp only [Value.slice.injEq] at he
      rw [he.1] at hbk; cases hbk
    · simp only [Value.slice.injEq] at he
      rw [he.1] at hbk
      simp only [blk, Option.some.injEq] at hbk
      have := lt_of_get hgg
      omega
  exact Ok.mk ⟨a, _, c, fun b => blk a = some b, rfl, ⟨⟨_, fun _ => False, ⟨ownsRow_base_a hrow (Nat.zero_le _)⟩, Reps.flat1 (fun _ _ => trivial), fun _ h => h.elim⟩, fun _ h => h, fun b h => (hblk b h).2⟩, Keep.of_below hb', fun b h => (hblk b h).1⟩
end Go.Proofs.YtpbpjojdfcdbbaaGreatDoor
