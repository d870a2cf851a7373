/- what each statement about segments asks: two frames, and half a third one -/
import Derived.Test.YtpmakiecgphijaaDoorSegCon
namespace Go.Lift
open Go
theorem Row.of_reps {α : Type} {c : Cod α} {bytes : Nat} {w : World} {D : Nat → Prop} {g : Nat} {e : TypeId} {f : Nat × Nat} {cs : List Value} {xs : List α} (hg : w.heap[g]? = some (.cells cs.toArray e f)) (hr : Reps c w D xs cs) (hD : D g) (hb : xs.length * bytes ≤ Big) :
    Row c bytes w D (some ⟨g, 0, none⟩) xs.length xs :=
  ⟨rfl, hb, fun i x hi => by
    obtain ⟨es, h1, h2⟩ := hr.at hi
    refine ⟨g, 0, es, rfl, lt_of_get hg, hD, fun j hj => ?_, h2⟩
    have hl := c.len h2
    have h3 := h1 j hj
    rw [List.getElem?_eq_getElem (show j < es.length by omega)] at h3 ⊢
    rw [Nat.zero_add]
    exact cell_at hg (by simpa using h3)⟩
theorem half_wrap {n : Nat} (h : n ≤ 1000000) : IntKind.wrap .i64 (Int.tdiv (n : Int) 2) = ((n / 2 : Nat) : Int) := by
  have : Int.tdiv (n : Int) 2 = ((n / 2 : Nat) : Int) := by rw [Int.tdiv_eq_ediv_of_nonneg (by omega)]; omega
  rw [this, wrap_i64 (by unfold I64; omega)]
end Go.Lift
namespace Go.Proofs.YtpmakiecgphijaaDoor
open Go.Lift
set_option linter.unusedVariables false
set_option maxRecDepth 20000

/-- a disk with one file, that was never synced -/
def oneD (n : Nat) (k : ByteArray) (bs : List UInt8) : DiskV := ⟨n, [(k, ⟨bs, 0, false⟩)], false, 0, false⟩
theorem create_one {n : Nat} {k : ByteArray} (h : isNameV k = true) : (newD n).create k = (0, oneD n k []) := by
  simp [DiskV.create, DiskV.op, DiskV.dies, DiskV.armed, newD, oneD, h, aget, DiskV.setF, aput]
theorem append_one {n : Nat} {k : ByteArray} {bs xs : List UInt8} (h : bs.length + xs.length ≤ n) : (oneD n k bs).append k xs = (0, oneD n k (bs ++ xs)) := by
  have hr : ¬ ((xs.length : Int) > (oneD n k bs).room) := by unfold DiskV.room DiskV.used sumLen oneD; simp; omega
  have e : (oneD n k bs).append k xs = if (xs.length : Int) > (oneD n k bs).room then (12, oneD n k bs) else (0, (oneD n k bs).setF k ⟨bs ++ xs, 0, false⟩) := by
    simp [DiskV.append, DiskV.op, DiskV.dies, DiskV.armed, oneD, DiskV.onF, aget]
  rw [e, if_neg hr]
  simp [oneD, DiskV.setF, aput]
theorem read_one {n : Nat} {k : ByteArray} {bs : List UInt8} : (oneD n k bs).read k = (bs, 0) := by
  simp [DiskV.read, oneD, aget]
theorem read_two {n : Nat} {k k' : ByteArray} {bs : List UInt8} (h : k' ≠ k) : (oneD n k bs).read k' = ([], 14) := by
  simp [DiskV.read, oneD, aget, h]

section
variable {w0 w w1 w' : World} {p : Nat} {D D' : DiskV} {X Y : Nat → Prop}
theorem NDisk.load {n : Int} (h : NDisk w0 w p D X) (hw : Laid w0) (hn : I64 n) : Calls Tryd.prog F_segment_Load #[.pointer (some ⟨p, 0, none⟩), .int .i64 n] w (Ok fun v w' =>
    ∃ a m c G, v = .tuple #[.slice a m c, .int .i64 ((segLoad (D.read (txt (segName n))).1).2 : Int)] ∧ Lst cEvO 42 G w' a m c (segLoad (D.read (txt (segName n))).1).1 ∧
      (∀ b, G b → w.heap.size ≤ b) ∧ NDisk w0 w' p D (fun b => X b ∨ G b) ∧ Grew w w' ∧ (segLoad (D.read (txt (segName n))).1).1.length ≤ 262144) := by
  obtain ⟨F, h1, h2⟩ := h
  refine Calls.ok (seg_Load (hw.grew h2.1) h1 hn) ?_
  rintro v w' ⟨a, m, c, G, rfl, ho, hk, hG, hl⟩
  exact ⟨a, m, c, G, rfl, ho, hG, NDisk.add ⟨F, h1, h2⟩ hk fun b hb => ⟨hG b hb, ho.dom b hb⟩, hk, hl⟩
/-- bytes of our own, appended -/
theorem NDisk.appendL {k : ByteArray} {a : Option Addr} {n c : Nat} {bs : List UInt8} {G : Nat → Prop} (h : NDisk w0 w p D X) (hb : Lst cU8 5 G w a n c bs) (hl : bs.length ≤ Big) (hG : ∀ b, G b → X b) :
    Calls Tryd.prog F_vdisk_Disk_Append #[.pointer (some ⟨p, 0, none⟩), .string k, .slice a n c] w (Ok (Does2 w0 w p X (D.append k bs))) :=
  h.append (hb.row (by decide) (by omega)) (fun e => hb.nil0 e) fun b hb => .inr (hG b hb)
end
theorem lst_evs {w : World} {G : Nat → Prop} {a : Option Addr} {n c : Nat} {l : List EventV} (h : Lst cEvO 42 G w a n c l) (hl : l.length ≤ 1000000) : Row cEv 96 w G a n l :=
  cEvO.row (h.row (by decide) (by unfold Big; omega))

theorem some_le {n : Int} (h : (evSome n).Ok) : (evFr (evSome n)).length ≤ 108 := by
  have := encInts_le (h.ints (by simp [evSome]))
  have hl : (evInts (evSome n)).length = 11 := by simp [evInts, evSome]
  unfold evFr
  rw [frBytes_length]; omega
theorem works_load : segLoad (evFr (evSome 1) ++ evFr (evSome 2) ++ (evFr (evSome 1)).take ((evFr (evSome 1)).length / 2)) = ([evSome 1, evSome 2], (evFr (evSome 1)).length + (evFr (evSome 2)).length) := by
  have o1 := evSome_ok (n := 1) (by decide) (by decide)
  have o2 := evSome_ok (n := 2) (by decide) (by decide)
  have h9 := evFr_length o1.1 o1.2
  have hend : segLoad ((evFr (evSome 1)).take ((evFr (evSome 1)).length / 2)) = ([], 0) :=
    segLoad_end (frGet_torn (by have := ev_le o1.1 o1.2; omega) (by show _ < (evFr (evSome 1)).length; omega))
  rw [List.append_assoc, segLoad_ev o1.1 o1.2, segLoad_ev o2.1 o2.2, hend]
  simp

def s7 : ByteArray := ⟨#[115, 101, 103, 46, 55]⟩
theorem s7_name : txt (segName 7) = s7 := by decide +kernel

theorem works {w : World} (hw : Laid w) : Calls Tryd.prog F_law20_works #[] w (Ok fun v w' => v = .bool true ∧ Grew w w') := by
  have o1 := evSome_ok (n := 1) (by decide) (by decide)
  have o2 := evSome_ok (n := 2) (by decide) (by decide)
  have l1 : (evFr (evSome 1)).length ≤ 108 ∧ 9 ≤ (evFr (evSome 1)).length := ⟨some_le o1.1, (evFr_length o1.1 o1.2).2⟩
  have l2 : (evFr (evSome 2)).length ≤ 108 ∧ 9 ≤ (evFr (evSome 2)).length := ⟨some_le o2.1, (evFr_length o2.1 o2.2).2⟩
  refine L_law20_works (PC.ok (new_ok (Keep.refl w) (by omega) (by omega)) ?_)
  rintro _ w1 ⟨p, rfl, h1, -⟩
  replace h1 := h1.mono (Y := no) fun _ h => h.elim
  refine ⟨_, _, rfl, PC.ok (law20_some (by decide) (by decide)) ?_⟩
  rintro _ w2 ⟨a2, n2, c2, F2, rfl, ho2, hF2, k2⟩
  have h2 := h1.grew k2
  refine ⟨_, _, _, _, _, _, _, _, _, _, _, _, rfl, PC.ok (seg_Frame (hw.grew h2.gr) (ho2.row (bytes := 8) (by decide) (by simp [evSome, Big])) o1.1 ho2.dom) ?_⟩
  rintro _ w3 ⟨a3, n3, c3, F3, rfl, ho3, k3, hF3⟩
  rw [segFrame_ok o1.1 o1.2] at ho3 ⊢
  simp only at ho3 ⊢
  have h3 := h2.add k3 fun b hb => ⟨hF3 b hb, ho3.dom b hb⟩
  refine ⟨_, _, _, _, rfl, PC.ok (law20_some (by decide) (by decide)) ?_⟩
  rintro _ w4 ⟨a4, n4, c4, F4, rfl, ho4, hF4, k4⟩
  have h4 := h3.grew k4
  refine ⟨_, _, _, _, _, _, _, _, _, _, _, _, rfl, PC.ok (seg_Frame (hw.grew h4.gr) (ho4.row (bytes := 8) (by decide) (by simp [evSome, Big])) o2.1 ho4.dom) ?_⟩
  rintro _ w5 ⟨a5, n5, c5, F5, rfl, ho5, k5, hF5⟩
  rw [segFrame_ok o2.1 o2.2] at ho5 ⊢
  simp only at ho5 ⊢
  have h5 := h4.add k5 fun b hb => ⟨hF5 b hb, ho5.dom b hb⟩
  have ho35 := (ho3.grew k4).grew k5
  refine ⟨_, _, _, _, rfl, PC.ok (seg_Number (hw.grew h5.gr)) ?_⟩
  rintro _ w6 ⟨rfl, k6⟩
  have h6 := h5.grew k6
  refine ⟨_, _, rfl, PC.ok (seg_Number (hw.grew h6.gr)) ?_⟩
  rintro _ w7 ⟨rfl, k7⟩
  have h7 := h6.grew k7
  have ho37 := (ho35.grew k6).grew k7
  have ho57 := (ho5.grew k6).grew k7
  refine ⟨_, _, rfl, PIf.ff rfl (PIf.ff rfl (PIf.ff rfl (eq_nil_ptr uD ⟨_, rfl, PIf.ff rfl (PC.ok h7.create ?_)⟩)))⟩
  rintro _ w8 ⟨rfl, h8, k8⟩
  have e7 : isNameV s7 = true := by decide +kernel
  change NDisk w w8 p ((newD 1000).create s7).2 _ at h8
  rw [show (⟨#[115, 101, 103, 46, 55]⟩ : ByteArray) = s7 from rfl]
  change NDisk w w8 p ((newD 1000).create s7).2 _ at h8
  have ec : (newD (Int.toNat 1000)).create s7 = (0, oneD 1000 s7 []) := create_one e7
  rw [show (newD 1000).create s7 = _ from ec] at h8
  rw [ec]
  have ho38 := ho37.keep k8 fun b hb hn => hn (.inl (.inr hb))
  have ho58 := ho57.keep k8 fun b hb hn => hn (.inr hb)
  refine ⟨_, rfl, PIf.ff rfl (PC.ok (h8.appendL ho38 (by unfold Big; omega) fun b hb => .inl (.inr hb)) ?_)⟩
  rintro _ w9 ⟨rfl, h9, k9⟩
  rw [append_one (by simp; omega)] at h9 ⊢
  have ho39 := ho38.keep k9 fun b hb hn => hn (.inl (.inr hb))
  have ho59 := ho58.keep k9 fun b hb hn => hn (.inr hb)
  refine ⟨_, rfl, PC.ok (h9.appendL ho59 (by unfold Big; omega) fun b hb => .inr hb) ?_⟩
  rintro _ w10 ⟨rfl, h10, k10⟩
  rw [append_one (by simp; omega)] at h10 ⊢
  have ho310 := ho39.keep k10 fun b hb hn => hn (.inl (.inr hb))
  have hl3 := ho3.len (by decide)
  have hl5 := ho5.len (by decide)
  have hc3 := ho3.cap_le
  have hh := half_wrap (n := n3) (by omega)
  refine ⟨_, rfl, by rw [hh]; omega, by rw [hh]; omega, ?_⟩
  rw [hh, Int.toNat_natCast]
  refine PC.ok (h10.append (((ho310.row (bytes := 1) (by decide) (by unfold Big; omega))).take (m := n3 / 2) (by omega)) (fun e => ⟨by have := (ho310.nil0 e).1; omega, (ho310.nil0 e).2⟩) fun b hb => .inr (.inl (.inr hb))) ?_
  rintro _ w11 ⟨rfl, h11, k11⟩
  rw [append_one (by simp; omega)] at h11 ⊢
  refine ⟨_, rfl, PC.ok (h11.load hw (by unfold I64; omega)) ?_⟩
  rintro _ w12 ⟨a12, n12, c12, F12, rfl, ho12, hF12, h12, k12, -⟩
  rw [s7_name, read_one, List.nil_append, hl3, works_load] at ho12 ⊢
  refine ⟨_, _, _, _, rfl, PC.ok (seg_Name (hw.grew h12.gr) (by unfold I64; omega)) ?_⟩
  rintro _ w13 ⟨rfl, k13⟩
  refine ⟨_, rfl, ?_⟩
  rw [s7_name]
  refine PIf.tt (by decide +kernel) (PIf.tt (by decide +kernel) (PIf.tt (by decide +kernel) (PIf.tt (by decide +kernel) (PIf.tt ?_ ?_))))
  · rw [hl5, wrap_i64 (by unfold I64; omega)]; simp
  have g13 := h12.gr.then k13
  refine PC.ok (law20_some (by decide) (by decide)) ?_
  rintro _ w14 ⟨a14, n14, c14, F14, rfl, ho14, hF14, k14⟩
  refine ⟨_, _, _, _, _, _, _, _, _, _, _, _, rfl, PC.ok (law20_some (by decide) (by decide)) ?_⟩
  rintro _ w15 ⟨a15, n15, c15, F15, rfl, ho15, hF15, k15⟩
  refine ⟨_, _, _, _, _, _, _, _, _, _, _, _, rfl, PA.mk fun w16 k16 s16 g16 => ?_⟩
  have r1 := ((ho14.grew k15).grew k16).row (bytes := 8) (by decide) (by simp [evSome, Big])
  have r2 := (ho15.grew k16).row (bytes := 8) (by decide) (by simp [evSome, Big])
  have hrow : Row cEv 96 w16 (fun _ => True) (some ⟨w15.heap.size, 0, none⟩) 2 [evSome 1, evSome 2] :=
    Row.of_reps (xs := [evSome 1, evSome 2]) (cs := evCells (evSome 1) a14 n14 c14 ++ evCells (evSome 2) a15 n15 c15) g16
      (Reps.append (Reps.one (c := cEv) ⟨a14, n14, c14, rfl, r1.mono fun _ _ => trivial, o1.1⟩) (Reps.one (c := cEv) ⟨a15, n15, c15, rfl, r2.mono fun _ _ => trivial, o2.1⟩)) trivial (by unfold Big; simp)
  refine PC.ok (kit_SameEvents (lst_evs ((((ho12.grew k13).grew k14).grew k15).grew k16) (by simp)) hrow) ?_
  rintro _ w17 ⟨rfl, k17⟩
  exact ⟨_, rfl, Ok.mk ⟨by simp, (((g13.then k14).then k15).then k16).then k17⟩⟩
end Go.Proofs.YtpmakiecgphijaaDoor
