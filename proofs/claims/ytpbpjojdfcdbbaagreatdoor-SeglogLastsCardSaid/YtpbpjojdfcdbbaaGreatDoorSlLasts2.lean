/- SeglogLasts: the walk -/
import Derived.Test.YtpbpjojdfcdbbaaGreatDoorSlLasts
namespace Go.Proofs.YtpbpjojdfcdbbaaGreatDoor
open Go.Lift
set_option linter.unusedVariables false
set_option maxRecDepth 20000

section
variable {w0 w w1 w' : World} {p q : Nat} {D D' : DiskV} {V V' : LogV} {X Y Z G S : Nat → Prop}
theorem NLog.fuse {n : Int} (h : NLog w0 w p q V D X) (hn : I64 n) : Calls Tryz.prog F_vdisk_Disk_Fuse #[.pointer (some ⟨p, 0, none⟩), .int .i64 n] w (Ok fun v w' => v = .tuple #[] ∧ NLog w0 w' p q V (D.fuse n) X ∧ Keep (Not' X) w w') := by
  obtain ⟨G, h1, h2, h3⟩ := h
  refine Calls.ok (h1.fuse hn) ?_
  rintro v w' ⟨hv, hD, hk⟩
  exact ⟨hv, ⟨G, hD, h2.keep hk fun b hb hn => hn (.inr hb), h3⟩, hk.mono fun b _ hb hx => hb (.inl hx)⟩
/-- another log opened on the disk of one -/
theorem NLog.open2 {size : Int} (hL : Laid w0) (h : NLog w0 w p q V D X) (h0 : (logOpen D size).no = 0) : Calls Tryz.prog F_seglog_Open #[.pointer (some ⟨p, 0, none⟩), .int .i64 size] w (Ok fun v w' =>
    ∃ q2 a n c G2, v = .tuple #[.pointer (some ⟨q2, 0, none⟩), .slice a n c, .int .i64 0] ∧ Lst cEvO 39 G2 w' a n c (logOpen D size).out ∧ NLog w0 w' p q V (logOpen D size).D (fun b => X b ∨ G2 b) ∧ Keep (Not' X) w w' ∧ ∀ b, G2 b → w.heap.size ≤ b) := by
  obtain ⟨G, h1, h2, h3⟩ := h
  refine Calls.ok (log_Open (size := size) hL h1) ?_
  rintro v w' (⟨hne, -⟩ | ⟨-, q2, a, n, c, G2, hv, ho, hN, hk, hG2, -, -⟩)
  · exact absurd h0 hne
  refine ⟨q2, a, n, c, G2, hv, ho, ⟨G, hN.disk.mono fun b hb => ?_, h2.keep hk fun b hb hn => hn (.inr hb), fun b hb => ⟨(h3 b hb).1, fun hx => hx.elim (h3 b hb).2 fun hg => by have := h2.dom b hb; have := hG2 b hg; omega⟩⟩, hk.mono fun b _ hb hx => hb (.inl hx), hG2⟩
  rcases hb with (hb | hb) | hb
  · exact .inl (.inl hb)
  · exact .inr hb
  · exact .inl (.inr hb)
end

/-- the walk's state: what was synced, what came behind -/
structure LSt (w0 w : World) (p : Nat) (size : Int) (q : Nat) (sa : Option Addr) (sn sc : Nat) (ba : Option Addr) (bn bc : Nat) (N : Nat) (dead : Bool) (S B : List EventV) (Fs FB : Nat → Prop) (V : LogV) (D : DiskV) (A : Segs) (no : Int) (lst : List EventV) (k : Nat) : Prop where
  hS : Lst cEv 39 Fs w sa sn sc S
  hB : Lst cEv 39 FB w ba bn bc B
  nS : ∀ b, Fs b → w0.heap.size ≤ b
  nB : ∀ b, FB b → w0.heap.size ≤ b
  ap : ∀ b, Fs b → ¬ FB b
  held : Held D A no lst k
  v : VOk V A no lst
  siz : V.size = size
  fat : Fat size A
  log : NLog w0 w p q V D (fun b => Fs b ∨ FB b)
  evs : evsOf A lst = S ++ B
  durs : S.length ≤ dur A k
  live : dead = false → Alive D
  tot : (S ++ B).length ≤ N
theorem LSt.grew {w0 w w' : World} {p : Nat} {size : Int} {q : Nat} {sa : Option Addr} {sn sc : Nat} {ba : Option Addr} {bn bc : Nat} {N : Nat} {dead : Bool} {S B : List EventV} {Fs FB : Nat → Prop} {V : LogV} {D : DiskV} {A : Segs} {no : Int} {lst : List EventV} {k : Nat}
    (h : LSt w0 w p size q sa sn sc ba bn bc N dead S B Fs FB V D A no lst k) (hk : Grew w w') : LSt w0 w' p size q sa sn sc ba bn bc N dead S B Fs FB V D A no lst k :=
  ⟨h.hS.grew hk, h.hB.grew hk, h.nS, h.nB, h.ap, h.held, h.v, h.siz, h.fat, h.log.grew hk, h.evs, h.durs, h.live, h.tot⟩

theorem evsOf_take (A : Segs) (l : List EventV) (q : Nat) : evsOf A (l.take q) = (evsOf A l).take (((A.map (·.2)).flatten).length + q) := by
  unfold evsOf
  generalize (A.map (·.2)).flatten = a
  rw [List.take_length_add_append]

theorem SeglogLasts {n size : Int} {la : Option Addr} {ln lc : Nat} {l : List Act22} {w : World} {Dl : Nat → Prop} (hn : I64 n) (ha : Row cAct22 64 w Dl la ln l) (hw : Laid w) :
    Calls Tryz.prog F_law22_SeglogLasts #[.int .i64 n, .int .i64 size, .slice la ln lc] w (Ok fun v w' => v = .bool true ∧ Grew w w') := by
  have ha0 := ha.len
  refine L_law22_SeglogLasts (PC.ok (law22_Long ha) ?_)
  rintro _ _ ⟨⟨t, rfl, hsh⟩, rfl⟩
  refine ⟨_, rfl, PIf.mk (fun h => fin22 hw (Keep.refl _)) (fun hlong => PC.ok (law22_Size hn) ?_)⟩
  obtain ⟨hl120, hl600, hall⟩ := hsh hlong
  rintro _ _ ⟨rfl, rfl⟩
  have hp := pick_range (k := n) (n := 16384) (by omega)
  generalize pick n 16384 = nn at hp
  refine ⟨_, rfl, PC.ok (new_ok (Keep.refl w) (by omega) (by omega)) ?_⟩
  rintro _ w1 ⟨p, rfl, h1, -⟩
  replace h1 := h1.mono (Y := no) fun _ h => h.elim
  generalize Int.toNat (64 + nn) = NN at h1
  refine ⟨_, _, rfl, PIf.ff rfl (eq_nil_ptr uD ⟨_, rfl, PIf.ff rfl (PC.ok (log_Open (size := size) hw h1) ?_)⟩)⟩
  rintro _ w2 (⟨hne, rfl, h2, -⟩ | ⟨h0, q, a2, n2, c2, G2, rfl, ho2, h2, -, -, -, -⟩)
  · exact ⟨_, _, _, _, _, rfl, PIf.tt (by simpa using hne) (eq_nil_ptr uL ⟨_, rfl, PIf.tt rfl (fin22 hw h2.gr)⟩)⟩
  obtain ⟨hwell, hout⟩ := well_new h0
  have hsz : (logOpen (newD NN) size).V.size = size := by
    rcases open_new NN size with h | ⟨-, h1, h2, h3, h4, h5, h6, h7⟩
    · exact absurd h0 (by omega)
    · exact h4
  generalize logOpen (newD NN) size = r0 at h2 hwell hsz
  refine ⟨_, _, _, _, _, rfl, PIf.ff rfl (eq_nil_ptr uL ⟨_, rfl, PIf.ff rfl ⟨fun m lp sa sn sc ba bn bc nx dead i w' => ∃ (j q N : Nat) (S B : List EventV) (Fs FB : Nat → Prop) (V : LogV) (D : DiskV) (A : Segs) (no' : Int) (lst : List EventV) (k : Nat),
      lp = some ⟨q, 0, none⟩ ∧ i = j ∧ j ≤ ln ∧ m = ln - j ∧ nx = ((N + 1 : Nat) : Int) ∧ N ≤ evTotal (l.take j) ∧ LSt w w' p size q sa sn sc ba bn bc N dead S B Fs FB V D A no' lst k,
    ⟨_, 0, q, 0, [], [], fun _ => False, fun _ => False, r0.V, r0.D, [], 1, [], 0, rfl, rfl, Nat.zero_le _, rfl, rfl, Nat.zero_le _, ⟨Lst.nil w2, Lst.nil w2, (fun _ h => h.elim), (fun _ h => h.elim), (fun _ h => h.elim), hwell.held, hwell.v, hsz, (fun y hy => by cases hy), h2.mono fun b hb => hb.elim (fun h => h.elim) fun h => h.elim, rfl, Nat.zero_le _, fun _ => hwell.alive, Nat.zero_le _⟩⟩, ?_⟩⟩)⟩
  rintro m lp sa sn sc ba bn bc nx dead i _ w3 ⟨j, q, N, S, B, Fs, FB, V, D, A, no', lst, k, rfl, rfl, hj, rfl, rfl, hN, hSt⟩
  refine PIf.dec (fun hlt => ?_) (fun hge => fin22 hw hSt.log.gr)
  obtain ⟨b, off, x, es, rfl, _, _, hx, hc, a1, n1, c1, b1, m1, d1, rfl, hr1, hr2, hki, hni, -⟩ := (ha.grew hSt.log.gr).atN (i := j) (by omega)
  have hn1 := hr1.len
  have hxm := List.mem_of_getElem? hx
  obtain ⟨hx200, -, -⟩ := hall x hxm
  have htot := evTotal_take l hx
  have htle := evTotal_le l (j + 1)
  refine ⟨b, off, rfl, by omega, by omega, _, _, _, _, _, _, _, _, hc 0 (by decide), hc 1 (by decide), hc 2 (by decide), hc 3 (by decide), PA.mk fun w4 k4 s4 g4 => ?_⟩
  refine storeAll [.int .i64 x.kind, .int .i64 x.n, .slice a1 n1 c1, .slice b1 m1 d1] g4 rfl fun w5 k5 s5 g5 => ?_
  have k35 : Grew w3 w5 := k4.new k5 fun b hb => .inr (by omega)
  have hSt5 := hSt.grew k35
  have z35 := k35.size
  have z3 := hSt.log.gr.size
  have hz5 : w3.heap.size < w5.heap.size := by omega
  have hne : V.segs ≠ [] := by rw [hSt.v.segs]; simp
  have hSl : S.length + B.length ≤ 600 := by have := hSt.tot; rw [List.length_append] at this; omega
  refine ⟨_, cell_at g5 rfl, PIf.eqI (fun h0 => ?_) (fun h0 => PIf.eqI (fun h1 => ?_) (fun h1 => PIf.eqI (fun h3 => ?_) (fun h3 => ?_)))⟩
  /- Append -/
  · refine ⟨fun m nx xa xn xc kk w' => ∃ (u : Nat) (xs : List EventV) (FX : Nat → Prop), kk = u ∧ u ≤ n1 ∧ m = n1 - u ∧ nx = ((N + 1 + u : Nat) : Int) ∧ xs.length = u ∧ (∀ e ∈ xs, e.Ok) ∧ Lst cEv 39 FX w' xa xn xc xs ∧ (∀ b, FX b → w5.heap.size ≤ b) ∧ Grew w5 w',
      ⟨_, 0, [], fun _ => False, rfl, Nat.zero_le _, rfl, rfl, rfl, by simp, Lst.nil w5, (fun _ h => h.elim), Keep.refl _⟩, ?_⟩
    rintro m nx xa xn xc kk _ w6 ⟨u, xs, FX, rfl, hu, rfl, rfl, hxl, hxo, hoX, hFX, k6⟩
    have g6 := k6.get g5 id
    refine ⟨_, _, _, cell_at g6 rfl, PIf.dec (fun hlt => ?_) (fun hge => ?_)⟩
    · have oe := evSome_ok (n := ((N + 1 + u : Nat) : Int)) (by omega) (by omega)
      refine PC.ok (law22_some (by omega) (by omega)) ?_
      rintro _ w7 ⟨a7, n7, c7, F7, rfl, ho7, hF7, k7⟩
      have hr7 : Row cI64 8 w7 F7 a7 n7 (evSome ((N + 1 + u : Nat) : Int)).deps := ho7.row (by decide) (by simp [evSome, Big])
      refine ⟨_, _, _, _, _, _, _, _, _, _, _, _, rfl, papp (hoX.grew k7) slEv (x := evSome ((N + 1 + u : Nat) : Int)) (D := F7) ⟨a7, n7, c7, rfl, hr7, oe.1⟩ (fun b hb => ⟨ho7.dom b hb, fun hc => by have := hoX.dom b (hoX.self b hc); have := hF7 b hb; omega⟩) (by rw [hxl]; unfold Big; omega) (by rw [hxl]; unfold maxLen; omega) fun a8 c8 w8 F8 ho8 hk8 hF8 _ => ?_⟩
      refine ⟨_, _, _, rfl, n1 - (u + 1), by omega, u + 1, xs ++ [evSome ((N + 1 + u : Nat) : Int)], F8, wrap_succ (by omega), by omega, rfl, wrap_succ (by omega), by simp [hxl], ?_, ho8, ?_, (k6.then k7).new hk8 fun b hb => .inr (hFX b (hoX.self b hb))⟩
      · intro e he
        rcases List.mem_append.1 he with h' | h'
        · exact hxo e h'
        · simp at h'; subst h'; exact oe.1
      · intro b hb
        have := k6.size; have := k7.size
        rcases hF8 b hb with h' | h' | h'
        · exact hFX b h'
        · have := hF7 b h'; omega
        · omega
    · obtain rfl : u = n1 := by omega
      have hSt6 := hSt5.grew k6
      have hN6 : NLog w w6 p q V D (fun b => (Fs b ∨ FB b) ∨ FX b) := hSt5.log.add k6 fun b hb => ⟨hFX b hb, hoX.dom b hb⟩
      have hrX : Row cEv 96 w6 FX xa xn xs := hoX.row (by decide) (by unfold Big; omega)
      refine PC.ok (log_Append hw hN6 hne hrX hoX.dom (by omega)) ?_
      rintro _ w7 ⟨rfl, hN7, k7⟩
      have hla : dead = false → Alive (logAppend V D xs).2.2 := fun hd => (hSt.live hd).lay xs
      have hap := held_append (x := xs) hSt.held hSt.v hxo (by omega) hSt.log.ok (by rw [hSt.siz]; exact hSt.fat)
      generalize logAppend V D xs = r at hN7 hla hap ⊢
      obtain ⟨A', no'', lst', k', hH', hV', hd', he', hs', hf', -⟩ := hap
      rw [hSt.siz] at hs' hf'
      rw [hSt.evs] at he'
      have hd2 := hSt.durs
      have hS7 := hSt6.hS.keep k7 fun b hb hn => hn (.inl (.inl hb))
      have hB7 := hSt6.hB.keep k7 fun b hb hn => hn (.inl (.inr hb))
      have hX7 := hoX.keep k7 fun b hb hn => hn (.inr hb)
      have hBd := hSt5.hB.dom
      refine ⟨_, rfl, PIf.eqI (fun h0 => ?_) (fun hne => ?_)⟩
      · rw [if_pos h0] at he'
        have hrX7 : Row cEv 96 w7 FX xa xn xs := hX7.row (by decide) (by unfold Big; omega)
        refine appRow' hB7 slEv hrX7 (fun e => hX7.nil0 e) (fun b hb => ⟨hX7.dom b hb, fun hc => by have := hBd b (hB7.self b hc); have := hFX b hb; omega⟩) (by unfold Big; omega) (by unfold maxLen; omega) fun a8 c8 w8 F8 ho8 hk8 hF8 _ => ?_
        have z57 := k6.size; have z7 := k7.size
        refine ⟨_, _, _, rfl, ln - (j + 1), by omega, j + 1, q, N + u, S, B ++ xs, Fs, F8, r.2.1, r.2.2, A', no'', lst', k', rfl, wrap_succ (by omega), by omega, rfl, by congr 1; omega, by omega, ?_⟩
        refine ⟨hS7.keep hk8 fun b hb hc => hSt.ap b hb (hB7.self b hc), ho8, hSt.nS, fun b hb => ?_, fun b hb hc => ?_, hH', hV', hs', hf', ?_, by rw [he']; simp, by omega, hla, by have := hSt.tot; simp at this ⊢; omega⟩
        · rcases hF8 b hb with h' | h' | h'
          · exact hSt.nB b h'
          · have := hFX b h'; omega
          · omega
        · have := hSt5.hS.dom b hb
          rcases hF8 b hc with h' | h' | h'
          · exact hSt.ap b hb h'
          · have := hFX b h'; omega
          · omega
        · refine hN7.turn hk8 (fun b hb => ⟨.inl (.inr (hB7.self b hb)), hSt.nB b (hB7.self b hb)⟩) fun b hb => ?_
          rcases hb with hb | hb
          · exact ⟨.inl (.inl (.inl hb)), by have := hS7.dom b hb; have := hk8.size; omega⟩
          · refine ⟨?_, ho8.dom b hb⟩
            rcases hF8 b hb with h' | h' | h'
            · exact .inl (.inl (.inr h'))
            · exact .inl (.inr h')
            · exact .inr h'
      · rw [if_neg hne] at he'
        exact ⟨ln - (j + 1), by omega, j + 1, q, N + u, S, B, Fs, FB, r.2.1, r.2.2, A', no'', lst', k', rfl, wrap_succ (by omega), by omega, rfl, by congr 1; omega, by omega, ⟨hS7, hB7, hSt.nS, hSt.nB, hSt.ap, hH', hV', hs', hf', hN7.mono fun b hb => .inl hb, he', by omega, hla, by have := hSt.tot; omega⟩⟩
  /- Sync -/
  · refine PC.ok (log_Sync hw hSt5.log hne) ?_
    rintro _ w6 ⟨rfl, hN6, k6⟩
    rw [Held.lastNm hSt.v] at hN6 ⊢
    have hla : dead = false → Alive (D.sync (segNm no')).2 := fun hd => ((hSt.live hd).sync (segNm no')).1
    have hsy := held_sync hSt.held
    generalize D.sync (segNm no') = r at hN6 hla hsy ⊢
    have hS6 := hSt5.hS.keep k6 fun b hb hn => hn (.inl hb)
    have hB6 := hSt5.hB.keep k6 fun b hb hn => hn (.inr hb)
    refine ⟨_, rfl, PIf.eqI (fun h0 => ?_) (fun hne => ?_)⟩
    · rcases hsy with ⟨-, hH⟩ | ⟨hc, -⟩
      · have hrB : Row cEv 96 w6 FB ba bn B := hB6.row (by decide) (by unfold Big; omega)
        refine appRow' hS6 slEv hrB (fun e => hB6.nil0 e) (fun b hb => ⟨hB6.dom b hb, fun hc => hSt.ap b (hS6.self b hc) hb⟩) (by unfold Big; omega) (by unfold maxLen; omega) fun a7 c7 w7 F7 ho7 hk7 hF7 _ => ?_
        refine ⟨_, _, _, rfl, ln - (j + 1), by omega, j + 1, q, N, S ++ B, [], F7, fun _ => False, V, r.2, A, no', lst, lst.length, rfl, wrap_succ (by omega), by omega, rfl, rfl, by omega, ?_⟩
        have z6 := k6.size
        refine ⟨ho7, Lst.nil w7, fun b hb => ?_, (fun _ h => h.elim), (fun _ _ h => h), hH, hSt.v, hSt.siz, hSt.fat, ?_, by rw [hSt.evs, List.append_nil], ?_, hla, by rw [List.append_nil]; exact hSt.tot⟩
        · rcases hF7 b hb with h' | h' | h'
          · exact hSt.nS b h'
          · exact hSt.nB b h'
          · omega
        · refine hN6.turn hk7 (fun b hb => ⟨.inl (hS6.self b hb), hSt.nS b (hS6.self b hb)⟩) fun b hb => ?_
          rcases hb with hb | hb
          · refine ⟨?_, ho7.dom b hb⟩
            rcases hF7 b hb with h' | h' | h'
            · exact .inl (.inl h')
            · exact .inl (.inr h')
            · exact .inr h'
          · exact hb.elim
        · rw [← hSt.evs]; unfold evsOf dur; simp
      · exact absurd h0 hc
    · rcases hsy with ⟨hc, -⟩ | ⟨-, hH⟩
      · exact absurd hc hne
      · exact ⟨ln - (j + 1), by omega, j + 1, q, N, S, B, Fs, FB, V, r.2, A, no', lst, k, rfl, wrap_succ (by omega), by omega, rfl, rfl, by omega, ⟨hS6, hB6, hSt.nS, hSt.nB, hSt.ap, hH, hSt.v, hSt.siz, hSt.fat, hN6, hSt.evs, hSt.durs, hla, hSt.tot⟩⟩
  /- Fuse -/
  · refine ⟨_, cell_at g5 rfl, PC.ok (hSt5.log.fuse hni) ?_⟩
    rintro _ w6 ⟨rfl, hN6, k6⟩
    exact ⟨rfl, ln - (j + 1), by omega, j + 1, q, N, S, B, Fs, FB, V, D.fuse x.n, A, no', lst, k, rfl, wrap_succ (by omega), by omega, rfl, rfl, by omega, ⟨hSt5.hS.keep k6 fun b hb hn => hn (.inl hb), hSt5.hB.keep k6 fun b hb hn => hn (.inr hb), hSt.nS, hSt.nB, hSt.ap, hSt.held.files rfl, hSt.v, hSt.siz, hSt.fat, hN6, hSt.evs, hSt.durs, (fun h => by cases h), hSt.tot⟩⟩
  /- the rest -/
  · have stay : ∃ m36, m36 < ln - j ∧ ∃ (j' q' N' : Nat) (S B : List EventV) (Fs FB : Nat → Prop) (V : LogV) (D : DiskV) (A : Segs) (no' : Int) (lst : List EventV) (k : Nat),
        (some ⟨q, 0, none⟩ : Option Addr) = some ⟨q', 0, none⟩ ∧ IntKind.wrap .i64 ((j : Int) + 1) = j' ∧ j' ≤ ln ∧ m36 = ln - j' ∧ ((N + 1 : Nat) : Int) = ((N' + 1 : Nat) : Int) ∧ N' ≤ evTotal (l.take j') ∧ LSt w w5 p size q' sa sn sc ba bn bc N' dead S B Fs FB V D A no' lst k :=
      ⟨ln - (j + 1), by omega, j + 1, q, N, S, B, Fs, FB, V, D, A, no', lst, k, rfl, wrap_succ (by omega), by omega, rfl, rfl, by omega, hSt5⟩
    refine ⟨fun t w' => t = decide (x.kind = 2 ∨ x.kind = 4) ∧ w5 = w', PIf.eqI (fun h2 => ⟨by simp [h2], rfl⟩) (fun h2 => ⟨by simp [h2]; rfl, rfl⟩), ?_⟩
    rintro _ _ _ ⟨rfl, rfl⟩
    refine PIf.dec (fun h24 => ?_) (fun _ => stay)
    refine ⟨fun w' => w5 = w' ∧ (x.kind = 4 → dead = false), ⟨_, cell_at g5 rfl, PIf.eqI (fun h4 => PIf.mk (fun hd => stay) (fun hd => ⟨rfl, fun _ => hd⟩)) (fun h4 => ⟨rfl, fun h => absurd h h4⟩)⟩, ?_⟩
    rintro _ _ ⟨rfl, hk4⟩
    let X5 : Nat → Prop := fun b => (Fs b ∨ FB b) ∨ b = w3.heap.size
    have hN5 : NLog w w5 p q V D X5 := hSt.log.add k35 fun b hb => by subst hb; omega
    refine ⟨fun d' w' => d' = false ∧ ∃ (D1 : DiskV) (q' k' : Nat), NDisk w w' p D1 X5 ∧ Lst cEv 39 Fs w' sa sn sc S ∧ Lst cEv 39 FB w' ba bn bc B ∧ w5.heap.size ≤ w'.heap.size ∧ w'.heap[w3.heap.size]? = some (.cells #[.int .i64 x.kind, .int .i64 x.n, .slice a1 n1 c1, .slice b1 m1 d1] 51 (0, 0)) ∧
      (logOpen D1 size).no = 0 ∧ (logOpen D1 size).out = evsOf A (lst.take q') ∧ VOk (logOpen D1 size).V A no' (lst.take q') ∧ (logOpen D1 size).V.size = size ∧ Held (logOpen D1 size).D A no' (lst.take q') k' ∧ Alive (logOpen D1 size).D ∧ k ≤ q' ∧ q' ≤ lst.length ∧ (x.kind = 2 → k' = q') ∧ (x.kind ≠ 2 → q' = lst.length ∧ k' = k), ?_, ?_⟩
    · refine ⟨_, cell_at g5 rfl, PIf.eqI (fun h2 => ⟨_, cell_at g5 rfl, PC.ok (hN5.disk.crash hni) ?_⟩) (fun h2 => ?_)⟩
      · rintro _ w6 ⟨rfl, hD6, k6⟩
        obtain ⟨q', e1, e2, e3, e4, e5, e6, e7, e8⟩ := open_crash (size := size) (keep := x.n) hSt.held
        exact ⟨rfl, rfl, _, q', q', hD6, hSt5.hS.keep k6 fun b hb hn => hn (.inl (.inl hb)), hSt5.hB.keep k6 fun b hb hn => hn (.inl (.inr hb)), k6.size, k6.get g5 fun hn => hn (.inr rfl), e3, e4, e5, e6, e7, e8, e1, e2, fun _ => rfl, fun h => absurd h2 h⟩
      · have h4 : x.kind = 4 := h24.resolve_left h2
        have hd := hk4 h4
        obtain ⟨e1, e2, e3, e4, -, e6, e7, -⟩ := open_anew (size := size) hSt.held (hSt.live hd)
        exact ⟨hd, D, lst.length, k, hN5.disk, hSt5.hS, hSt5.hB, Nat.le_refl _, g5, e1, by rw [List.take_length]; exact e2, by rw [List.take_length]; exact e3, e4, by rw [List.take_length]; exact e6, e7, hSt.held.kl, Nat.le_refl _, fun h => absurd h h2, fun _ => ⟨rfl, rfl⟩⟩
    · rintro _ _ w6 ⟨rfl, D1, q', k', hD6, hS6, hB6, z6, g6, o1, o2, o3, o4, o5, o6, hkq, hql, hk2, hk4'⟩
      refine PC.ok (log_Open (size := size) hw hD6) ?_
      rintro _ w7 (⟨hne, -⟩ | ⟨-, q7, a7, n7, c7, G7, rfl, ho7, hN7, k7, hG7, -, -⟩)
      · exact absurd o1 hne
      rw [o2] at ho7
      obtain ⟨y1, y2, y3, y4, -, y6, y7, -⟩ := open_anew (size := size) o5 o6
      generalize logOpen D1 size = r1 at hN7 o3 o4 o5 o6 y1 y2 y3 y4 y6 y7
      have hn7 := ho7.len (by decide)
      have hS7 := hS6.keep k7 fun b hb hn => hn (.inl (.inl hb))
      have hB7 := hB6.keep k7 fun b hb hn => hn (.inl (.inr hb))
      have g7 := k7.get g6 fun hn => hn (.inr rfl)
      have hsn := hS7.len (by decide)
      have hbn := hB7.len (by decide)
      have hgot := evsOf_take A lst q'
      rw [hSt.evs] at hgot
      have hgl : (evsOf A (lst.take q')).length = ((A.map (·.2)).flatten).length + q' := by unfold evsOf; simp; omega
      have hel := congrArg List.length hSt.evs
      have hel2 : ((A.map (·.2)).flatten).length + lst.length = S.length + B.length := by
        rw [List.length_append] at hel; rw [← hel]; unfold evsOf; simp
      have hdS := hSt.durs
      unfold dur at hdS
      have hrS : Row cEv 96 w7 Fs sa sn S := hS7.row (by decide) (by unfold Big; omega)
      refine ⟨_, _, _, _, _, rfl, PIf.ff rfl (eq_nil_ptr uL ⟨_, rfl, PIf.ff rfl (PC.ok (kit_CopyEvents hrS fun e he => ?_) ?_)⟩)⟩
      · have := (hSt.held.evs e (by rw [hSt.evs]; exact List.mem_append_left _ he)).2
        omega
      rintro _ w8 ⟨a8, n8, c8, F8, rfl, ho8, k8, hF8⟩
      have hB8 := hB7.grew k8
      have hrB : Row cEv 96 w8 FB ba bn B := hB8.row (by decide) (by unfold Big; omega)
      have hn8 := ho8.len (by decide)
      refine ⟨_, _, _, rfl, appRow' (lst_read ho8) slEv hrB (fun e => hB8.nil0 e) (fun b hb => ⟨hB8.dom b hb, fun hc => by have := hF8 b (ho8.self b hc); have := hB7.dom b hb; omega⟩) (by unfold Big; omega) (by unfold maxLen; omega) fun a9 c9 w9 F9 ho9 hk9 hF9 _ => ?_⟩
      have hn9 := ho9.len (by decide)
      have hc9 := ho9.cap_le
      have hN8 : NLog w w8 p q7 r1.V r1.D (fun b => (X5 b ∨ G7 b) ∨ F8 b) := hN7.add k8 fun b hb => ⟨hF8 b hb, ho8.dom b hb⟩
      have z7 := k7.size; have z8 := k8.size; have z9 := hk9.size
      have zw7 := hN7.gr.size
      have hN9 : NLog w w9 p q7 r1.V r1.D (fun b => X5 b ∨ G7 b) := (hN8.other hk9 fun b hb => ⟨.inr (ho8.self b hb), by have := hF8 b (ho8.self b hb); omega⟩).mono fun b hb => .inl hb
      have k79 : Grew w7 w9 := k8.new hk9 fun b hb => .inr (hF8 b (ho8.self b hb))
      have g9 := k79.get g7 id
      have ho79 := ho7.grew k79
      have hr79 : Row cEv 96 w9 G7 a7 n7 (evsOf A (lst.take q')) := lst_evs ho79 (by omega)
      have hr9 : Row cEv 96 w9 F9 a9 (n8 + bn) (S ++ B) := ho9.row (by decide) (by simp; unfold Big; omega)
      rw [List.length_append] at hn9
      refine ⟨_, _, _, rfl, fun w' => Grew w9 w', ?_, ?_⟩
      · refine PIf.dec (fun h => by omega) (fun _ => PIf.dec (fun h => by omega) (fun _ => ⟨by omega, by omega, ?_⟩))
        rw [Int.toNat_natCast]
        refine PC.ok (kit_SameEvents hr79 (hr9.take (m := n7) (by omega))) ?_
        rintro _ w10 ⟨rfl, k10⟩
        have hsame : evsOf A (lst.take q') = (S ++ B).take n7 := by rw [hn7, hgl]; exact hgot
        refine ⟨_, rfl, PIf.ff (by simp [← hsame]) ⟨_, cell_at (k10.get g9 id) rfl, PIf.eqI (fun h4 => PIf.neI (fun hne => ?_) (fun _ => k10)) (fun _ => k10)⟩⟩
        have := (hk4' (by rw [h4]; decide)).1
        omega
      · rintro _ w10 k10
        have hN10 := hN9.grew k10
        refine PC.ok (hN10.open2 (size := size) hw y1) ?_
        rintro _ w11 ⟨q11, a11, n11, c11, G11, rfl, ho11, hN11, k11, hG11⟩
        rw [y2] at ho11
        have ho711 := (ho79.grew k10).keep k11 fun b hb hn => hn (.inr hb)
        have g11 := k11.get (k10.get g9 id) fun hn => hn (.inl (.inr rfl))
        have hS11 := ((hS7.grew k79).grew k10).keep k11 fun b hb hn => hn (.inl (.inl (.inl hb)))
        have hB11 := ((hB7.grew k79).grew k10).keep k11 fun b hb hn => hn (.inl (.inl (.inr hb)))
        refine ⟨_, _, _, _, _, rfl, PIf.ff rfl (PC.ok (kit_SameEvents (lst_evs ho11 (by omega)) (lst_evs ho711 (by omega))) ?_)⟩
        rintro _ w12 ⟨rfl, k12⟩
        have hN12 := hN11.grew k12
        refine ⟨_, rfl, PIf.ff (by simp) ⟨_, cell_at (k12.get g11 id) rfl, PIf.eqI (fun h2 => ?_) (fun h2 => ?_)⟩⟩
        · obtain rfl := hk2 h2
          refine ⟨ln - (j + 1), by omega, j + 1, q7, N, evsOf A (lst.take k'), [], G7, fun _ => False, r1.V, _, A, no', lst.take k', k', rfl, wrap_succ (by omega), by omega, rfl, rfl, by omega, ⟨lst_read (ho711.grew k12), Lst.nil w12, fun b hb => by have := hG7 b hb; omega, (fun _ h => h.elim), (fun _ _ h => h), y6, o3, o4, hSt.fat, hN12.mono fun b hb => ?_, by rw [List.append_nil], ?_, fun _ => y7, ?_⟩⟩
          · exact hb.elim (fun h => .inl (.inr h)) fun h => h.elim
          · rw [hgl]; unfold dur; omega
          · rw [List.append_nil, hgl]; have := hSt.tot; rw [List.length_append] at this; omega
        · obtain ⟨rfl, rfl⟩ := hk4' h2
          rw [List.take_length] at o3 y6
          exact ⟨ln - (j + 1), by omega, j + 1, q7, N, S, B, Fs, FB, r1.V, _, A, no', lst, k', rfl, wrap_succ (by omega), by omega, rfl, rfl, by omega, ⟨hS11.grew k12, hB11.grew k12, hSt.nS, hSt.nB, hSt.ap, y6, o3, o4, hSt.fat, hN12.mono fun b hb => .inl (.inl (.inl hb)), hSt.evs, hSt.durs, fun _ => y7, hSt.tot⟩⟩
end Go.Proofs.YtpbpjojdfcdbbaaGreatDoor
