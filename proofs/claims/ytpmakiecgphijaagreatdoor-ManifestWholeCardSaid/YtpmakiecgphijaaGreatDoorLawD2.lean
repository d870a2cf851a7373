/- what is done: an act at a time -/
import Derived.Test.YtpmakiecgphijaaGreatDoorLawD
namespace Go.Proofs.YtpmakiecgphijaaGreatDoor
open Go.Lift Go.ChangeShapes Go.WideShapes Go.ChangeAt Go.RowKit
set_option linter.unusedVariables false
set_option maxRecDepth 20000

structure ActV where
  kind : Int
  n : Int
  name : ByteArray
  to : ByteArray
  b : List UInt8

def cAct : Cod ActV where
  k := 5
  rep := fun w D x cs => ∃ a n c, cs = [.int .i64 x.kind, .int .i64 x.n, .string x.name, .string x.to, .slice a n c] ∧ I64 x.kind ∧ I64 x.n ∧ Row cU8 1 w D a n x.b
  keep := fun ⟨a, n, c, h1, h2, h3, h4⟩ hk hd => ⟨a, n, c, h1, h2, h3, h4.keep hk hd⟩
  mono := fun ⟨a, n, c, h1, h2, h3, h4⟩ hd => ⟨a, n, c, h1, h2, h3, h4.mono hd⟩
  len := fun ⟨a, n, c, h1, _⟩ => by rw [h1]; rfl
  one := fun ⟨a, n, c, h1, _⟩ u hu => by
    rw [h1] at hu
    simp only [List.mem_cons, List.not_mem_nil, or_false] at hu
    rcases hu with rfl | rfl | rfl | rfl | rfl <;> rfl

theorem reads_Act : Reads Tryz.prog cAct 118 := fun H enc w held fuel cs x h hw => by
  obtain ⟨xs, n2, _, rfl, hcl, hxl, hfs⟩ := DataW.trod_struct (Tryz.underlying118) h
  have hc5 : Tryz.prog.cellsOf 118 = 5 := by kernel_rfl
  have hl : cs.length = 5 := hcl.trans hc5
  have k1 : Tryz.prog.cellsOf 3 = 1 := by kernel_rfl
  have k2 : Tryz.prog.cellsOf 9 = 1 := by kernel_rfl
  have k3 : Tryz.prog.cellsOf 22 = 1 := by kernel_rfl
  match cs, hl with
  | [v0, v1, v2, v3, v4], _ =>
  match xs, hxl with
  | [y0, y1, y2, y3, y4], _ =>
    have f0 := hfs 0 _ rfl
    have f1 := hfs 1 _ rfl
    have f2 := hfs 2 _ rfl
    have f3 := hfs 3 _ rfl
    have f4 := hfs 4 _ rfl
    simp only [k1, k2, k3, List.drop_zero, List.drop_succ_cons, List.take_succ_cons, List.take_zero, List.getElem?_cons_zero, List.getElem?_cons_succ] at f0 f1 f2 f3 f4
    obtain ⟨z0, e0, -, w0⟩ := DataW.trod_int Tryz.underlying3 f0
    obtain ⟨z1, e1, -, w1⟩ := DataW.trod_int Tryz.underlying3 f1
    obtain ⟨z2, e2, -, -⟩ := DataW.trod_string Tryz.underlying9 f2
    obtain ⟨z3, e3, -, -⟩ := DataW.trod_string Tryz.underlying9 f3
    have hyy : Light Tryz.prog 22 y4.1 := by
      intro q hq
      refine hw q ?_
      have hu : Tryz.prog.underlying 118 = _ := Tryz.underlying118
      simp only [DataW.weights, hu, List.map_cons, List.map_nil, DataW.weightsEach, List.mem_append]
      right; right; right; right; left; exact hq
    obtain ⟨a4, n4, c4, l4, e4, -, -, i4⟩ := open_row (bytes := 1) Tryz.underlying22 (by kernel_rfl) (by decide) (by kernel_rfl) (reads_U8 Tryz.underlying5) f4 hyy
    cases e0; cases e1; cases e2; cases e3; cases e4
    exact ⟨⟨z0, z1, z2, z3, l4⟩, a4, n4, c4, rfl, i64_of_wf w0, i64_of_wf w1, i4⟩

def DiskV.does (D : DiskV) (x : ActV) : Int × DiskV :=
  if pick x.kind 10 = 0 then D.create x.name
  else if pick x.kind 10 = 1 ∨ pick x.kind 10 = 2 then D.append x.name x.b
  else if pick x.kind 10 = 3 then D.sync x.name
  else if pick x.kind 10 = 4 then D.rename x.name x.to
  else if pick x.kind 10 = 5 then D.delete x.name
  else if pick x.kind 10 = 6 then D.cutF x.name x.n
  else if pick x.kind 10 = 7 then (0, D.crash x.n)
  else if pick x.kind 10 = 8 then (0, D.fuse x.n)
  else ((D.read x.name).2, D)

theorem law_Does {w : World} {p : Nat} {F Db : Nat → Prop} {D : DiskV} {x : ActV} {a : Option Addr} {n c : Nat} (h : DiskAt w p F D) (hn : I64 x.n) (hb : Row cU8 1 w Db a n x.b) :
    Calls Tryz.prog F_law19_Does #[.pointer (some ⟨p, 0, none⟩), .agg #[.int .i64 x.kind, .int .i64 x.n, .string x.name, .string x.to, .slice a n c]] w (Ok (Did w p F (D.does x))) := by
  refine L_law19_Does (PA.mk fun w1 k1 s1 g1 => ⟨_, cell_at g1 rfl, PC.ok (kit_Pick (by unfold I64; omega)) ?_⟩)
  rintro _ _ ⟨rfl, rfl⟩
  have h1 := h.grew k1
  have fin : ∀ {v w'} {r : Int × DiskV}, Did w1 p F r v w' → D.does x = r → ∃ t : Int, v = .int .i64 t ∧ Ok (Did w p F (D.does x)) (.returned (.int .i64 t)) w' := fun hd he => by
    rw [he]; exact did_int _ _ k1 hd
  refine ⟨_, rfl, PIf.eqI (fun h0 => ⟨_, cell_at g1 rfl, PC.ok (Disk_Create h1) fun v w' hd => fin hd (by unfold DiskV.does; rw [if_pos h0])⟩) (fun h0 => ?_)⟩
  refine ⟨fun b w' => b = decide (pick x.kind 10 = 1 ∨ pick x.kind 10 = 2) ∧ w' = w1, PIf.eqI (fun h1 => ⟨by simp [h1], rfl⟩) (fun h1 => ⟨by by_cases h2 : pick x.kind 10 = 2 <;> simp [h1, h2], rfl⟩), ?_⟩
  rintro _ B _ ⟨rfl, rfl⟩
  refine PIf.dec (fun h12 => ?_) (fun h12 => ?_)
  · refine ⟨a, n, c, cell_at g1 rfl, PC.ok (kit_CopyBytes (hb.grew k1)) ?_⟩
    rintro _ w3 ⟨a3, n3, c3, F3, rfl, ho3, k3, hF3⟩
    have hbig : x.b.length * 1 ≤ Big := by have := hb.len; have := hb.big; omega
    have hn3 : n3 = x.b.length := ho3.len (by decide)
    have hdom := h.dom
    refine ⟨_, _, _, rfl, _, cell_at (k3.get g1 id) rfl, PC.ok (Disk_Append (h1.grew k3) (ho3.row (by decide) hbig) ho3.nil0 fun b hb => ⟨ho3.dom b hb, fun hf => by have := hF3 b hb; have := hdom b hf; omega⟩) ?_⟩
    rintro _ w4 ⟨F', rfl, hD4, hev4⟩
    have ho4 := ho3.keep hev4.keep fun b hb hf => by have := hF3 b hb; have := hdom b hf; omega
    refine ⟨_, rfl, PC.ok (kit_SpoilBytes ho4 (by omega)) ?_⟩
    rintro _ w5 ⟨rfl, k5, s5⟩
    have he : D.does x = D.append x.name x.b := by unfold DiskV.does; rw [if_neg h0, if_pos h12]
    rw [he]
    refine ⟨rfl, Ok.mk ⟨F', rfl, hD4.keep k5 fun b hb hf => ?_, ⟨?_, fun b hb => ?_⟩⟩⟩
    · rcases hev4.new b hb with h | h
      · have := hF3 b hf; have := hdom b h; omega
      · have := ho3.dom b hf; omega
    · exact (((Grew.keep (k1.grew k3)).then hev4.keep).new k5 fun b hb => .inr (by have := hF3 b hb; omega))
    · rcases hev4.new b hb with h | h
      · exact .inl h
      · have := k3.size; exact .inr (by omega)
  · have h2 := h12
    have e12 : D.does x = (if pick x.kind 10 = 3 then D.sync x.name
      else if pick x.kind 10 = 4 then D.rename x.name x.to
      else if pick x.kind 10 = 5 then D.delete x.name
      else if pick x.kind 10 = 6 then D.cutF x.name x.n
      else if pick x.kind 10 = 7 then (0, D.crash x.n)
      else if pick x.kind 10 = 8 then (0, D.fuse x.n)
      else ((D.read x.name).2, D)) := by unfold DiskV.does; rw [if_neg h0, if_neg h12]
    refine PIf.eqI (fun h3 => ⟨_, cell_at g1 rfl, PC.ok (Disk_Sync h1) fun v w' hd => fin hd (by rw [e12, if_pos h3])⟩) (fun h3 => ?_)
    refine PIf.eqI (fun h4 => ⟨_, cell_at g1 rfl, _, cell_at g1 rfl, PC.ok (Disk_Rename h1) fun v w' hd => fin hd (by rw [e12, if_neg h3, if_pos h4])⟩) (fun h4 => ?_)
    refine PIf.eqI (fun h5 => ⟨_, cell_at g1 rfl, PC.ok (Disk_Delete h1) fun v w' hd => fin hd (by rw [e12, if_neg h3, if_neg h4, if_pos h5])⟩) (fun h5 => ?_)
    refine PIf.eqI (fun h6 => ⟨_, cell_at g1 rfl, _, cell_at g1 rfl, PC.ok (Disk_Cut h1) fun v w' hd => fin hd (by rw [e12, if_neg h3, if_neg h4, if_neg h5, if_pos h6])⟩) (fun h6 => ?_)
    refine PIf.eqI (fun h7 => ⟨_, cell_at g1 rfl, PC.ok (Disk_Crash h1 hn) ?_⟩) (fun h7 => ?_)
    · rintro v w' ⟨F', rfl, hD, hev⟩
      have e : D.does x = (0, D.crash x.n) := by rw [e12, if_neg h3, if_neg h4, if_neg h5, if_neg h6, if_pos h7]
      rw [e]
      exact ⟨rfl, Ok.mk ⟨F', rfl, hD, (Evo.mk k1.keep fun _ h => .inl h : Evo F w F _).trans hev⟩⟩
    refine PIf.eqI (fun h8 => ⟨_, cell_at g1 rfl, PC.ok (Disk_Fuse hn h1) ?_⟩) (fun h8 => ?_)
    · rintro v w' ⟨rfl, hD, hev⟩
      have e : D.does x = (0, D.fuse x.n) := by rw [e12, if_neg h3, if_neg h4, if_neg h5, if_neg h6, if_neg h7, if_pos h8]
      rw [e]
      exact ⟨rfl, Ok.mk ⟨F, rfl, hD, (Evo.mk k1.keep fun _ h => .inl h : Evo F w F _).trans hev⟩⟩
    refine PIf.eqI (fun h9 => ⟨_, cell_at g1 rfl, PC.ok (Disk_Read h1) ?_⟩) (fun h9 => ?_)
    · rintro v w' ⟨u, rfl, a9, n9, c9, F9, rfl, ho9, hk9, hF9⟩
      have e : D.does x = ((D.read x.name).2, D) := by rw [e12, if_neg h3, if_neg h4, if_neg h5, if_neg h6, if_neg h7, if_neg h8]
      rw [e]
      exact ⟨_, _, _, _, rfl, Ok.mk ⟨F, rfl, h1.grew hk9, Grew.keep (k1.grew hk9), fun _ h => .inl h⟩⟩
    · exfalso
      have := pick_range (k := x.kind) (n := 10) (by omega)
      omega

theorem law_Long {w : World} {a : Option Addr} {n c : Nat} {l : List ActV} {E : Nat → Prop} (h : Row cAct 72 w E a n l) :
    Calls Tryz.prog F_law19_Long #[.slice a n c] w (Ok fun v w' => ∃ b : Bool, v = .bool b ∧ w = w' ∧ (b = false → l.length ≤ 100 ∧ ∀ x ∈ l, x.b.length ≤ 4096 ∧ x.name.size ≤ 100 ∧ x.to.size ≤ 100)) := by
  have hl := h.len
  refine L_law19_Long (PIf.dec (fun _ => Ok.mk ⟨true, rfl, rfl, fun h => by cases h⟩) (fun h100 => ?_))
  refine ⟨fun m i w' => ∃ j : Nat, i = j ∧ j ≤ n ∧ m = n - j ∧ w' = w ∧ ∀ x ∈ l.take j, x.b.length ≤ 4096 ∧ x.name.size ≤ 100 ∧ x.to.size ≤ 100, ⟨_, 0, rfl, Nat.zero_le _, rfl, rfl, by simp⟩, ?_⟩
  rintro m i B _ ⟨j, rfl, hj, rfl, rfl, hs⟩
  refine PIf.dec (fun h1 => ?_) (fun h1 => ?_)
  · obtain ⟨b, off, x, es, rfl, hbs, hE, hx, hc, a1, n1, c1, rfl, hi1, hi2, hr1⟩ := h.at (i := (j : Int)) (by omega) (by omega)
    have hl1 := hr1.len
    rw [Int.toNat_natCast] at hx
    refine ⟨b, off, rfl, by omega, by omega, a1, n1, c1, hc 4 (by decide), PIf.dec (fun _ => Ok.mk ⟨true, rfl, rfl, fun h => by cases h⟩) (fun h2 => ⟨b, off, rfl, by omega, by omega, x.name, hc 2 (by decide), PIf.dec (fun _ => Ok.mk ⟨true, rfl, rfl, fun h => by cases h⟩) (fun h3 => ⟨b, off, rfl, by omega, by omega, x.to, hc 3 (by decide), PIf.dec (fun _ => Ok.mk ⟨true, rfl, rfl, fun h => by cases h⟩) (fun h4 => ?_)⟩)⟩)⟩
    refine ⟨_, by omega, j + 1, wrap_succ (by omega), by omega, rfl, rfl, fun y hy => ?_⟩
    rw [List.take_add_one, hx] at hy
    simp only [Option.toList_some, List.mem_append, List.mem_singleton] at hy
    rcases hy with hy | rfl
    · exact hs y hy
    · omega
  · rw [List.take_of_length_le (by omega)] at hs
    exact Ok.mk ⟨false, rfl, rfl, fun _ => ⟨by omega, hs⟩⟩
end Go.Proofs.YtpmakiecgphijaaGreatDoor
