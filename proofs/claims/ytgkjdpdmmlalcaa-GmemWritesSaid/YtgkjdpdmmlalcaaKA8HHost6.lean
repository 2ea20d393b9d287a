import Derived.Test.YtgkjdpdmmlalcaaKZF0
import Derived.Test.YtgkjdpdmmlalcaaKA0
import Derived.Test.YtgkjdpdmmlalcaaKA2HHost0
import Derived.Test.YtgkjdpdmmlalcaaKA3
import Derived.Test.YtgkjdpdmmlalcaaKA5
section
namespace Go.Proofs.Ytgkjdpdmmlalcaa.F
open Go.RowKit Go.Shelf Go.Proofs.YtgkjdpdmmlalcaaW.PrintWords Go.Proofs.YtgkjdpdmmlalcaaW.PrintLast Go.Proofs.YtgkjdpdmmlalcaaW.PrintMore
set_option linter.unusedVariables false
set_option linter.unusedSimpArgs false
structure StW (w W : World) (m c x y f1 f2 : Value) : Prop where
  bel : Below w.heap.size w W
  h : W.heap[w.heap.size]? = some (.cells #[m, c] 25 (0, 0))
  r : W.heap[w.heap.size + 1]? = some (.cells #[x, y] 25 (0, 0))
  q : W.heap[w.heap.size + 1 + 1]? = some (.cells #[f1, f2] 34 (0, 0))
  s : w.heap.size + 3 ≤ W.heap.size
theorem StW.first (w : World) (m c x y : Value) : StW w (((w.alloc (.cells #[m, c] 25)).alloc (.cells #[x, y] 25)).alloc (.cells #[.int .i64 0, .int .u64 0] 34)) m c x y (.int .i64 0) (.int .u64 0) := by
  have s1 : ∀ (W : World) o, (W.alloc o).heap.size = W.heap.size + 1 := fun W o => World.size_alloc W o
  have b1 : Below w.heap.size w (w.alloc (.cells #[m, c] 25)) := (Below.refl _ _).alloc (Nat.le_refl _) _
  have b2 := b1.alloc (by rw [s1]; omega) (.cells #[x, y] 25)
  have b3 := b2.alloc (by rw [s1, s1]; omega) (.cells #[.int .i64 0, .int .u64 0] 34)
  have n1 := blk_new w (.cells #[m, c] 25)
  have n2 := blk_new (w.alloc (.cells #[m, c] 25)) (.cells #[x, y] 25)
  have n3 := blk_new ((w.alloc (.cells #[m, c] 25)).alloc (.cells #[x, y] 25)) (.cells #[.int .i64 0, .int .u64 0] 34)
  rw [s1] at n2
  rw [s1, s1] at n3
  exact ⟨b3, blk_alloc (blk_alloc n1 _) _, blk_alloc n2 _, n3, by rw [s1, s1, s1]; omega⟩
theorem StW.step {w W W' : World} {m c x y f1 f2 : Value} (h : StW w W m c x y f1 f2) (hb : Below (w.heap.size + 3) W W') : StW w W' m c x y f1 f2 :=
  ⟨h.bel.trans (hb.mono (by omega)), (hb.block _ (by omega)).trans h.h, (hb.block _ (by omega)).trans h.r, (hb.block _ (by omega)).trans h.q, Nat.le_trans h.s hb.size⟩
theorem StW.below {w W W' : World} {m c x y f1 f2 : Value} (h : StW w W m c x y f1 f2) (hb : Below W.heap.size W W') : StW w W' m c x y f1 f2 := h.step (hb.mono h.s)
theorem StW.set1 {w W : World} {m c x y f1 f2 : Value} (h : StW w W m c x y f1 f2) (u : Value) : StW w (W.setCell ⟨w.heap.size, 1, none⟩ u) m u x y f1 f2 :=
  have hk : ∀ k, k ≠ w.heap.size → (W.setCell ⟨w.heap.size, 1, none⟩ u).heap[k]? = W.heap[k]? := fun k hk => Below.heap_setCell W _ u k hk
  ⟨h.bel.setCell (Nat.le_refl _) _, blk_put h.h 1 u rfl, (hk _ (by omega)).trans h.r, (hk _ (by omega)).trans h.q, by simpa [World.setCell] using h.s⟩
theorem StW.setR {w W : World} {m c x y f1 f2 : Value} (h : StW w W m c x y f1 f2) (u v : Value) : StW w ((W.setCell ⟨w.heap.size + 1, 0, none⟩ u).setCell ⟨w.heap.size + 1, 1, none⟩ v) m c u v f1 f2 :=
  have hk : ∀ k, k ≠ w.heap.size + 1 → ((W.setCell ⟨w.heap.size + 1, 0, none⟩ u).setCell ⟨w.heap.size + 1, 1, none⟩ v).heap[k]? = W.heap[k]? := fun k hk => (Below.heap_setCell _ _ v k hk).trans (Below.heap_setCell W _ u k hk)
  ⟨(h.bel.setCell (by show w.heap.size ≤ w.heap.size + 1; omega) _).setCell (by show w.heap.size ≤ w.heap.size + 1; omega) _, (hk _ (by omega)).trans h.h, blk_put (blk_put h.r 0 u rfl) 1 v rfl, (hk _ (by omega)).trans h.q, by simpa [World.setCell] using h.s⟩
theorem StW.setQ {w W : World} {m c x y f1 f2 : Value} (h : StW w W m c x y f1 f2) (u v : Value) : StW w ((W.setCell ⟨w.heap.size + 1 + 1, 0, none⟩ u).setCell ⟨w.heap.size + 1 + 1, 1, none⟩ v) m c x y u v :=
  have hk : ∀ k, k ≠ w.heap.size + 1 + 1 → ((W.setCell ⟨w.heap.size + 1 + 1, 0, none⟩ u).setCell ⟨w.heap.size + 1 + 1, 1, none⟩ v).heap[k]? = W.heap[k]? := fun k hk => (Below.heap_setCell _ _ v k hk).trans (Below.heap_setCell W _ u k hk)
  ⟨(h.bel.setCell (by show w.heap.size ≤ w.heap.size + 1 + 1; omega) _).setCell (by show w.heap.size ≤ w.heap.size + 1 + 1; omega) _, (hk _ (by omega)).trans h.h, (hk _ (by omega)).trans h.r, blk_put (blk_put h.q 0 u rfl) 1 v rfl, by simpa [World.setCell] using h.s⟩
theorem rises_pair {α : Type} (key : α → Int) : ∀ l : List α, Rises key l ↔ (l.map key).Pairwise (· < ·)
  | [] => ⟨fun _ => List.Pairwise.nil, fun _ => trivial⟩
  | x :: l => by
    rw [List.map_cons, List.pairwise_cons, ← rises_pair key l]
    refine ⟨fun h => ⟨fun b hb => ?_, rises_tail key h⟩, fun h => rises_cons key (fun y hy => h.1 _ (List.mem_map.2 ⟨y, hy, rfl⟩)) h.2⟩
    obtain ⟨y, hy, rfl⟩ := List.mem_map.1 hb
    exact rises_head key h y hy
theorem setL_length (a u : Int) (l : List S88) : (setL a u l).length ≤ l.length + 1 := by
  have h := lowB_le clK a l
  unfold setL
  split
  · split
    · have := List.length_eraseIdx_le l (lowB clK a l)
      omega
    · rw [List.length_set]; omega
  · split
    · omega
    · simp only [List.length_append, List.length_take, List.length_drop, List.length_cons, List.length_nil]; omega
theorem setL_rises {l : List S88} (h : Rises clK l) (a u : Int) : Rises clK (setL a u l) := by
  have hh := has_lowB clK (k := a) h
  unfold setL
  split
  · split
    · exact (rises_pair clK _).2 (((rises_pair clK _).1 h).sublist ((List.eraseIdx_sublist l _).map clK))
    · rename_i h1 h2
      rw [h1] at hh
      refine (rises_pair clK _).2 ?_
      rw [List.map_set]
      have hi : lowB clK a l < l.length := by
        rcases Nat.lt_or_ge (lowB clK a l) l.length with h | h
        · exact h
        · rw [List.getElem?_eq_none h] at hh
          cases hh
      rw [List.getElem?_eq_getElem hi] at hh
      have hx : clK l[lowB clK a l] = a := of_decide_eq_true hh.symm
      have e : clK ⟨a, u⟩ = (l.map clK)[lowB clK a l]'(by simpa using hi) := by
        rw [List.getElem_map, hx]
      rw [e, List.set_getElem_self]
      exact (rises_pair clK _).1 h
  · split
    · exact h
    · rename_i h1 h2
      have hn : ∀ x ∈ l, clK x ≠ a := fun x hx e => h1 (List.any_eq_true.2 ⟨x, hx, decide_eq_true e⟩)
      have ht : Rises clK (l.take (lowB clK a l)) := by
        have := h
        rw [← List.take_append_drop (lowB clK a l) l] at this
        exact rises_left clK this
      have hd : Rises clK (l.drop (lowB clK a l)) := by
        have := h
        rw [← List.take_append_drop (lowB clK a l) l] at this
        exact rises_right clK this
      rw [List.append_assoc, List.singleton_append]
      refine rises_append clK ht (rises_cons clK (fun y hy => ?_) hd) (fun x hx y hy => ?_)
      · have h3 := drop_lowB clK a h y hy
        have h4 := hn y (List.mem_of_mem_drop hy)
        show a < clK y
        omega
      · have h5 := take_lowB clK a l x hx
        rcases List.mem_cons.1 hy with rfl | hy
        · exact h5
        · have h3 := drop_lowB clK a h y hy
          omega
def stMask (a2 : Int) : Int := IntKind.u64.wrap (IntKind.u64.wrap (IntKind.u64.wrap (2 ^ ((8 * a2).toNat - 1)) * 2) - 1)
def st1 (l : List S88) (base s mask v t : Int) : List S88 := setL base (Go.bits .or .u64 (Go.bits .andNot .u64 t (shl .u64 mask s)) (shl .u64 v s)) l
def st2 (l : List S88) (base s high v t : Int) : List S88 := setL (IntKind.u64.wrap (base + 8)) (Go.bits .or .u64 (Go.bits .andNot .u64 t high) (v / 2 ^ min (IntKind.u64.wrap (64 - s)).toNat 64)) l
def stCells (l0_0 : List S83) (l0_1 : List S88) (base s mask high v : Int) : Option (List S88) :=
  (host_word.f l0_0 l0_1 base).bind fun t => if high ≠ 0 ∧ s > 0 then (host_word.f l0_0 l0_1 (IntKind.u64.wrap (base + 8))).bind fun t2 => some (st2 (st1 l0_1 base s mask v t) base s high v t2) else some (st1 l0_1 base s mask v t)
-- HAND fn=ferry/host.Store ; rounds=0 ; making=1 ; laid=0 ; share=0_0,0_1 ; views=0,1
def host_Store.f (l0_0 : List S83) (l0_1 : List S88) (a1 a2 a3 : Int) : Option (List S83 × List S88 × Int × Int) :=
  if a2 < 1 then some (l0_0, l0_1, 0, 0) else if a2 > 8 then some (l0_0, l0_1, 0, 0) else (host_ask.f 40 l0_0 l0_1 a1 a2 2).bind fun t => if t.1 = 0 then (if l0_1.length ≤ 999999 ∧ risesB clK l0_1 = true then ((stCells l0_0 l0_1 (Go.bits .andNot .u64 a1 7) (IntKind.u64.wrap (8 * Go.bits .and .u64 a1 7)) (stMask a2) (stMask a2 / 2 / 2 ^ min (IntKind.u64.wrap (63 - IntKind.u64.wrap (8 * Go.bits .and .u64 a1 7))).toNat 64) (Go.bits .and .u64 a3 (stMask a2))).bind fun c => some (l0_0, c, 0, 0)) else none) else some (l0_0, l0_1, t.1, t.2)
set_option maxHeartbeats 8000000 in
set_option maxRecDepth 100000 in
theorem host_Store.calls (P0_0_ : Nat → Prop) (A0_0 : Option Addr) (c0_0 : Nat) (l0_0 : List S83) (P0_1_ : Nat → Prop) (A0_1 : Option Addr) (c0_1 : Nat) (l0_1 : List S88) (a1 a2 a3 : Int) (r1 : List S83) (r2 : List S88) (r3 r4 : Int) (w : World) (hs0_0 : Kd.V k83 83 w w.heap.size (fun k_ => P0_0_ k_) (.slice A0_0 l0_0.length c0_0) l0_0) (hs0_1 : Kd.V k88 88 w w.heap.size (fun k_ => P0_1_ k_) (.slice A0_1 l0_1.length c0_1) l0_1) (h : host_Store.f l0_0 l0_1 a1 a2 a3 = some (r1, r2, r3, r4)) :
    Calls Try.prog 76 #[.agg #[.slice A0_0 l0_0.length c0_0, .slice A0_1 l0_1.length c0_1], .int .u64 a1, .int .i64 a2, .int .u64 a3] w fun e w' => ∃ v0_ v1_ : Value, e = .returned (.tuple #[.agg #[v0_, v1_], .agg #[.int .i64 r3, .int .u64 r4]]) ∧ Kd.V k83 83 w' w.heap.size (fun k_ => ((P0_0_ k_ ∨ P0_1_ k_) ∨ w.heap.size ≤ k_)) v0_ r1 ∧ Kd.V k88 88 w' w.heap.size (fun k_ => ((P0_0_ k_ ∨ P0_1_ k_) ∨ w.heap.size ≤ k_)) v1_ r2 ∧ Below w.heap.size w w' := by
  unfold host_Store.f at h
  have VM := Lib.hid hs0_0
  have VC := Lib.hid hs0_1
  have CM := Lib.hid (Kd.V_reads' hs0_0)
  have CC := Lib.hid (Kd.V_reads' hs0_1)
  have U0 := Lib.hid (StW.first w (.slice A0_0 l0_0.length c0_0) (.slice A0_1 l0_1.length c0_1) (.slice none 0 0) (.slice none 0 0))
  clear hs0_0 hs0_1
  have hu := Try.underlying25
  have huf := Try.underlying34
  have mixed : Try.prog.follows Departure.mixedOrders = true := by kernel_rfl
  have h0 := (sblk_cell U0.out.h 0).trans rfl
  have h1 := (sblk_cell U0.out.h 1).trans rfl
  have r0 := (sblk_cell U0.out.r 0).trans rfl
  have r1' := (sblk_cell U0.out.r 1).trans rfl
  have z0 := sblk_free U0.out.r 0
  have z1 := sblk_free U0.out.r 1
  have q0 := (sblk_cell U0.out.q 0).trans rfl
  have q1 := (sblk_cell U0.out.q 1).trans rfl
  have y0 := sblk_free U0.out.q 0
  have y1 := sblk_free U0.out.q 1
  go_enter Try.func76, Try.ntmps76
  by_cases hn : a2 < 1
  · rw [if_pos hn] at h
    simp only [Option.some.injEq, Prod.mk.injEq] at h
    obtain ⟨rfl, rfl, rfl, rfl⟩ := h
    have hnb : decide (a2 < 1) = true := decide_eq_true hn
    go_wp2
    have U3 := StW.first w (.slice A0_0 l0_0.length c0_0) (.slice A0_1 l0_1.length c0_1) (.slice A0_0 l0_0.length c0_0) (.slice A0_1 l0_1.length c0_1)
    have f0 := (sblk_cell U3.r 0).trans rfl
    have f1 := (sblk_cell U3.r 1).trans rfl
    have f2 := (sblk_cell U3.q 0).trans rfl
    have f3 := (sblk_cell U3.q 1).trans rfl
    exact bodyPost_ret (v := .tuple #[.agg #[.slice A0_0 l0_0.length c0_0, .slice A0_1 l0_1.length c0_1], .agg #[.int .i64 0, .int .u64 0]]) (by simp [results, Try.results76, go_sem, hu, huf, f0, f1, f2, f3]) rfl ⟨_, _, rfl, view_old VM.out U3.bel (fun k hk => .inl (.inl hk)), view_old VC.out U3.bel (fun k hk => .inl (.inr hk)), U3.bel⟩
  have hnb : decide (a2 < 1) = false := decide_eq_false hn
  rw [if_neg hn] at h
  by_cases hn8 : a2 > 8
  · rw [if_pos hn8] at h
    simp only [Option.some.injEq, Prod.mk.injEq] at h
    obtain ⟨rfl, rfl, rfl, rfl⟩ := h
    have hnc : decide (a2 > 8) = true := decide_eq_true hn8
    go_wp2
    have U3 := StW.first w (.slice A0_0 l0_0.length c0_0) (.slice A0_1 l0_1.length c0_1) (.slice A0_0 l0_0.length c0_0) (.slice A0_1 l0_1.length c0_1)
    have f0 := (sblk_cell U3.r 0).trans rfl
    have f1 := (sblk_cell U3.r 1).trans rfl
    have f2 := (sblk_cell U3.q 0).trans rfl
    have f3 := (sblk_cell U3.q 1).trans rfl
    exact bodyPost_ret (v := .tuple #[.agg #[.slice A0_0 l0_0.length c0_0, .slice A0_1 l0_1.length c0_1], .agg #[.int .i64 0, .int .u64 0]]) (by simp [results, Try.results76, go_sem, hu, huf, f0, f1, f2, f3]) rfl ⟨_, _, rfl, view_old VM.out U3.bel (fun k hk => .inl (.inl hk)), view_old VC.out U3.bel (fun k hk => .inl (.inr hk)), U3.bel⟩
  have hnc : decide (a2 > 8) = false := decide_eq_false hn8
  rw [if_neg hn8] at h
  obtain ⟨⟨t1, t2⟩, ht, h⟩ := Option.bind_eq_some_iff.1 h
  have AK := Lib.hid (fun w c1 c2 c3 c4 => host_ask.calls 40 A0_0 c0_0 l0_0 A0_1 c0_1 l0_1 a1 a2 2 t1 t2 w c1 c2 c3 c4 ht)
  clear ht
  go_wp2_with (fail)
  refine (AK.out _ (Kd.C_below CM.out.2.2 U0.out.bel) CM.out.2.1 (Kd.C_below CC.out.2.2 U0.out.bel) CC.out.2.1).mono ?_
  rintro e w1 ⟨rfl, hb⟩
  have U1 := Lib.hid (U0.out.below hb)
  clear hb h0 h1 r0 r1' z0 z1 q0 q1 y0 y1 U0
  have h0 := (sblk_cell U1.out.h 0).trans rfl
  have h1 := (sblk_cell U1.out.h 1).trans rfl
  have r0 := (sblk_cell U1.out.r 0).trans rfl
  have r1' := (sblk_cell U1.out.r 1).trans rfl
  have z0 := sblk_free U1.out.r 0
  have z1 := sblk_free U1.out.r 1
  have q0 := (sblk_cell U1.out.q 0).trans rfl
  have q1 := (sblk_cell U1.out.q 1).trans rfl
  have y0 := sblk_free U1.out.q 0
  have y1 := sblk_free U1.out.q 1
  by_cases ht0 : t1 = 0
  · subst ht0
    rw [if_pos rfl] at h
    split at h
    rotate_left
    · cases h
    rename_i hc
    go_wp2_with (fail)
    clear h0 h1 r0 r1' z0 z1 q0 q1 y0 y1
    have U2 := Lib.hid (U1.out.below ((Below.refl _ w1).alloc (Nat.le_refl _) (.cells #[.int .i64 0, .int .u64 t2] 34)))
    generalize w1.alloc _ = W2 at U2 ⊢
    rw [show IntKind.u64.wrap (IntKind.u64.wrap (IntKind.u64.wrap (2 ^ ((8 * a2).toNat - 1)) * 2) - 1) = stMask a2 from rfl]
    have hs0 : 0 ≤ IntKind.u64.wrap (8 * Go.bits .and .u64 a1 7) := by simp only [IntKind.wrap, IntKind.signed]; exact Int.emod_nonneg _ (by decide)
    generalize IntKind.u64.wrap (8 * Go.bits .and .u64 a1 7) = s at h hs0 ⊢
    generalize stMask a2 = mask at h ⊢
    generalize Go.bits .and .u64 a3 mask = v at h ⊢
    generalize Go.bits .andNot .u64 a1 7 = base at h ⊢
    have hc0 := (sblk_cell U2.out.h 0).trans rfl
    have hc1 := (sblk_cell U2.out.h 1).trans rfl
    obtain ⟨cl, hcl, h⟩ := Option.bind_eq_some_iff.1 h
    simp only [Option.some.injEq, Prod.mk.injEq] at h
    obtain ⟨rfl, rfl, rfl, rfl⟩ := h
    obtain ⟨t, hw1, hcl⟩ := Option.bind_eq_some_iff.1 hcl
    have W1 := Lib.hid (fun w c1 c2 c3 c4 => host_word.calls A0_0 c0_0 l0_0 A0_1 c0_1 l0_1 base t w c1 c2 c3 c4 hw1)
    have CLN := Lib.hid (fun W (hW : Below w.heap.size w W) => cl_clone.calls A0_1 c0_1 l0_1 W (Kd.C_below CC.out.2.2 hW) CC.out.2.1 (by omega))
    clear hw1 AK U1
    go_region_with (first
    | (go_at_call 106; (with_reducible refine (CLN.out _ (U2.out.below ((Below.refl _ _).drew)).bel).mono ?_); rintro e w3 ⟨v1, rfl, hR1, hb1⟩; have U3 := Lib.hid ((U2.out.below ((Below.refl _ _).drew)).below hb1); have RR3 := Lib.hid hR1; have Z3 := Lib.hid hb1.size; clear hb1 hR1; have hd0 := (sblk_cell U3.out.h 0).trans rfl; have hd1 := (sblk_cell U3.out.h 1).trans rfl)
    | (go_at_call 107; (with_reducible refine (W1.out _ (Kd.C_below CM.out.2.2 U3.out.bel) CM.out.2.1 (Kd.C_below CC.out.2.2 U3.out.bel) CC.out.2.1).mono ?_); rintro e w4 ⟨rfl, hb2⟩; have U4 := Lib.hid (U3.out.below hb2); have RR4 := Lib.hid (Kd.R_below RR3.out hb2); have Z4 := Lib.hid (Nat.le_trans Z3.out hb2.size); clear hb2; have he0 := (sblk_cell U4.out.h 0).trans rfl; have he1 := (sblk_cell U4.out.h 1).trans rfl)
    | (go_at_call 105; (with_reducible refine (host_set.calls _ _ v1 l0_1 base _ _ RR4.out Z4.out (by have := hc.1; omega) ((risesB_iff _).1 hc.2)).mono ?_); rintro e w5 ⟨v5, rfl, hR5, hb5⟩; obtain ⟨A5, c5, rfl⟩ := Kd.R_slice hR5; have RR5 := Lib.hid (show Kd.R k88 88 w5 W2.heap.size (fun _ => True) (.slice A5 (st1 l0_1 base s mask v t).length c5) (st1 l0_1 base s mask v t) from hR5); have U5 := Lib.hid (U4.out.step (hb5.mono U2.out.s)); have Z5 := Lib.hid (show W2.heap.size ≤ w5.heap.size from Nat.le_trans Z4.out hb5.size); clear hb5 hR5; have hg0 := (sblk_cell U5.out.h 0).trans rfl; have hg1 := (sblk_cell U5.out.h 1).trans rfl; have hz1 := sblk_free U5.out.h 1))
    all_goals clear hc0 hc1 hd0 hd1 he0 he1
    all_goals
      go_upto_region 11 with (fail)
      have hr1 := setL_rises ((risesB_iff _).1 hc.2) base (Go.bits .or .u64 (Go.bits .andNot .u64 t (IntKind.u64.wrap (mask * 2 ^ min s.toNat 64))) (IntKind.u64.wrap (v * 2 ^ min s.toNat 64)))
      have hl1 := setL_length base (Go.bits .or .u64 (Go.bits .andNot .u64 t (IntKind.u64.wrap (mask * 2 ^ min s.toNat 64))) (IntKind.u64.wrap (v * 2 ^ min s.toNat 64))) l0_1
      rw [show setL base (Go.bits .or .u64 (Go.bits .andNot .u64 t (IntKind.u64.wrap (mask * 2 ^ min s.toNat 64))) (IntKind.u64.wrap (v * 2 ^ min s.toNat 64))) l0_1 = st1 l0_1 base s mask v t from rfl] at hr1 hl1 ⊢
      have HR1 := Lib.hid hr1
      generalize st1 l0_1 base s mask v t = l1 at RR5 HR1 hl1 hcl ⊢
      generalize mask / 2 / 2 ^ min (IntKind.u64.wrap (63 - s)).toNat 64 = high at hcl ⊢
      clear hr1 RR3 RR4 U3 U4 Z3 Z4 CLN
      by_cases hhi : high = 0
      · subst hhi
        rw [if_neg (by simp)] at hcl
        obtain rfl := Option.some.inj hcl
        clear hg0 hg1 hz1
        have ka0 := (sblk_cell U5.out.h 0).trans rfl
        have ka1 := (sblk_cell U5.out.h 1).trans rfl
        have kz1 := sblk_free U5.out.h 1
        have kr0 := (sblk_cell U5.out.r 0).trans rfl
        have kr1 := (sblk_cell U5.out.r 1).trans rfl
        have ky0 := sblk_free U5.out.r 0
        have ky1 := sblk_free U5.out.r 1
        have kq0 := (sblk_cell U5.out.q 0).trans rfl
        have kq1 := (sblk_cell U5.out.q 1).trans rfl
        have kx0 := sblk_free U5.out.q 0
        have kx1 := sblk_free U5.out.q 1
        go_wp2
        have U9 := ((U5.out.set1 (.slice A5 l1.length c5)).setR (.slice A0_0 l0_0.length c0_0) (.slice A5 l1.length c5)).setQ (.int .i64 0) (.int .u64 0)
        have f0 := (sblk_cell U9.r 0).trans rfl
        have f1 := (sblk_cell U9.r 1).trans rfl
        have f2 := (sblk_cell U9.q 0).trans rfl
        have f3 := (sblk_cell U9.q 1).trans rfl
        have s2 := U2.out.s
        refine bodyPost_ret (v := .tuple #[.agg #[.slice A0_0 l0_0.length c0_0, (.slice A5 l1.length c5)], .agg #[.int .i64 0, .int .u64 0]]) (by simp [results, Try.results76, go_sem, hu, huf, f0, f1, f2, f3]) rfl ⟨_, _, rfl, view_old VM.out U9.bel (fun k hk => .inl (.inl hk)), ?_, U9.bel⟩
        refine Kd.V_mono (Kd.V_step (Kd.R_V (Kd.R_bound RR5.out)) (fun k hk _ => (set_far (by have := hk.2.1; omega)).trans ((set_far (by have := hk.2.1; omega)).trans ((set_far (by have := hk.2.1; omega)).trans ((set_far (by have := hk.2.1; omega)).trans (set_far (by have := hk.2.1; omega))))))) (fun k hk => .inr (by have := hk.2.1; omega))
      by_cases hsp : s > 0
      · rw [if_pos ⟨hhi, hsp⟩] at hcl
        obtain ⟨tt, hw2, hcl⟩ := Option.bind_eq_some_iff.1 hcl
        obtain rfl := Option.some.inj hcl
        have WW := Lib.hid (fun w c1 c2 c3 c4 => host_word.calls A0_0 c0_0 l0_0 A0_1 c0_1 l0_1 _ tt w c1 c2 c3 c4 hw2)
        have hhb : (high != 0) = true := bne_iff_ne.2 hhi
        have hsb : decide (s > 0) = true := decide_eq_true hsp
        clear hw2 hg0 hg1 hz1
        have hg0 := (sblk_cell U5.out.h 0).trans rfl
        have hg1 := (sblk_cell U5.out.h 1).trans rfl
        go_wp2_with (first | (go_at_call 107; (with_reducible refine (WW.out _ (Kd.C_below CM.out.2.2 U5.out.bel) CM.out.2.1 (Kd.C_below CC.out.2.2 U5.out.bel) CC.out.2.1).mono ?_); rintro e w6 ⟨rfl, hb2⟩; have U6 := Lib.hid (U5.out.below hb2); have RR6 := Lib.hid (Kd.R_below RR5.out hb2); have Z6 := Lib.hid (Nat.le_trans Z5.out hb2.size); clear hb2; have he0 := (sblk_cell U6.out.h 0).trans rfl; have he1 := (sblk_cell U6.out.h 1).trans rfl) | (go_at_call 105; (with_reducible refine (host_set.calls _ _ _ l1 _ _ _ RR6.out Z6.out (by have := hc.1; omega) HR1.out).mono ?_); rintro e w7 ⟨v7, rfl, hR7, hb7⟩; obtain ⟨A7, c7, rfl⟩ := Kd.R_slice hR7; have RR7 := Lib.hid (show Kd.R k88 88 w7 W2.heap.size (fun _ => True) (.slice A7 (st2 l1 base s high v tt).length c7) (st2 l1 base s high v tt) from hR7); have U7 := Lib.hid (U6.out.step (hb7.mono U2.out.s)); clear hb7 hR7 hg0 hg1 he0 he1; have ka0 := (sblk_cell U7.out.h 0).trans rfl; have ka1 := (sblk_cell U7.out.h 1).trans rfl; have kz1 := sblk_free U7.out.h 1; have kr0 := (sblk_cell U7.out.r 0).trans rfl; have kr1 := (sblk_cell U7.out.r 1).trans rfl; have ky0 := sblk_free U7.out.r 0; have ky1 := sblk_free U7.out.r 1; have kq0 := (sblk_cell U7.out.q 0).trans rfl; have kq1 := (sblk_cell U7.out.q 1).trans rfl; have kx0 := sblk_free U7.out.q 0; have kx1 := sblk_free U7.out.q 1))
        rw [show setL (IntKind.u64.wrap (base + 8)) (Go.bits .or .u64 (Go.bits .andNot .u64 tt high) (v / 2 ^ min (IntKind.u64.wrap (64 - s)).toNat 64)) l1 = st2 l1 base s high v tt from rfl]
        go_wp2
        have U9 := ((U7.out.set1 (.slice A7 (st2 l1 base s high v tt).length c7)).setR (.slice A0_0 l0_0.length c0_0) (.slice A7 (st2 l1 base s high v tt).length c7)).setQ (.int .i64 0) (.int .u64 0)
        have f0 := (sblk_cell U9.r 0).trans rfl
        have f1 := (sblk_cell U9.r 1).trans rfl
        have f2 := (sblk_cell U9.q 0).trans rfl
        have f3 := (sblk_cell U9.q 1).trans rfl
        have s2 := U2.out.s
        refine bodyPost_ret (v := .tuple #[.agg #[.slice A0_0 l0_0.length c0_0, (.slice A7 (st2 l1 base s high v tt).length c7)], .agg #[.int .i64 0, .int .u64 0]]) (by simp [results, Try.results76, go_sem, hu, huf, f0, f1, f2, f3]) rfl ⟨_, _, rfl, view_old VM.out U9.bel (fun k hk => .inl (.inl hk)), ?_, U9.bel⟩
        refine Kd.V_mono (Kd.V_step (Kd.R_V (Kd.R_bound RR7.out)) (fun k hk _ => (set_far (by have := hk.2.1; omega)).trans ((set_far (by have := hk.2.1; omega)).trans ((set_far (by have := hk.2.1; omega)).trans ((set_far (by have := hk.2.1; omega)).trans (set_far (by have := hk.2.1; omega))))))) (fun k hk => .inr (by have := hk.2.1; omega))
      · rw [if_neg (fun h => hsp h.2)] at hcl
        obtain rfl := Option.some.inj hcl
        have hhb : (high != 0) = true := bne_iff_ne.2 hhi
        have hsb : decide (s > 0) = false := decide_eq_false hsp
        clear hg0 hg1 hz1
        have ka0 := (sblk_cell U5.out.h 0).trans rfl
        have ka1 := (sblk_cell U5.out.h 1).trans rfl
        have kz1 := sblk_free U5.out.h 1
        have kr0 := (sblk_cell U5.out.r 0).trans rfl
        have kr1 := (sblk_cell U5.out.r 1).trans rfl
        have ky0 := sblk_free U5.out.r 0
        have ky1 := sblk_free U5.out.r 1
        have kq0 := (sblk_cell U5.out.q 0).trans rfl
        have kq1 := (sblk_cell U5.out.q 1).trans rfl
        have kx0 := sblk_free U5.out.q 0
        have kx1 := sblk_free U5.out.q 1
        go_wp2
        have U9 := ((U5.out.set1 (.slice A5 l1.length c5)).setR (.slice A0_0 l0_0.length c0_0) (.slice A5 l1.length c5)).setQ (.int .i64 0) (.int .u64 0)
        have f0 := (sblk_cell U9.r 0).trans rfl
        have f1 := (sblk_cell U9.r 1).trans rfl
        have f2 := (sblk_cell U9.q 0).trans rfl
        have f3 := (sblk_cell U9.q 1).trans rfl
        have s2 := U2.out.s
        refine bodyPost_ret (v := .tuple #[.agg #[.slice A0_0 l0_0.length c0_0, (.slice A5 l1.length c5)], .agg #[.int .i64 0, .int .u64 0]]) (by simp [results, Try.results76, go_sem, hu, huf, f0, f1, f2, f3]) rfl ⟨_, _, rfl, view_old VM.out U9.bel (fun k hk => .inl (.inl hk)), ?_, U9.bel⟩
        refine Kd.V_mono (Kd.V_step (Kd.R_V (Kd.R_bound RR5.out)) (fun k hk _ => (set_far (by have := hk.2.1; omega)).trans ((set_far (by have := hk.2.1; omega)).trans ((set_far (by have := hk.2.1; omega)).trans ((set_far (by have := hk.2.1; omega)).trans (set_far (by have := hk.2.1; omega))))))) (fun k hk => .inr (by have := hk.2.1; omega))
  rw [if_neg ht0] at h
  simp only [Option.some.injEq, Prod.mk.injEq] at h
  obtain ⟨rfl, rfl, rfl, rfl⟩ := h
  have ht1 : (t1 != 0) = true := bne_iff_ne.2 ht0
  go_wp2_with (fail)
  clear h0 h1 r0 r1' z0 z1 q0 q1 y0 y1
  have U2 := Lib.hid (U1.out.below ((Below.refl _ w1).alloc (Nat.le_refl _) (.cells #[.int .i64 t1, .int .u64 t2] 34)))
  have hf := blk_new w1 (.cells #[.int .i64 t1, .int .u64 t2] 34)
  have hsz := U1.out.s
  generalize w1.alloc _ = W2 at U2 hf ⊢
  generalize w1.heap.size = gf at hf hsz ⊢
  have h0 := (sblk_cell U2.out.h 0).trans rfl
  have h1 := (sblk_cell U2.out.h 1).trans rfl
  have r0 := (sblk_cell U2.out.r 0).trans rfl
  have r1' := (sblk_cell U2.out.r 1).trans rfl
  have z0 := sblk_free U2.out.r 0
  have z1 := sblk_free U2.out.r 1
  have q0 := (sblk_cell U2.out.q 0).trans rfl
  have q1 := (sblk_cell U2.out.q 1).trans rfl
  have y0 := sblk_free U2.out.q 0
  have y1 := sblk_free U2.out.q 1
  have f0 := (sblk_cell hf 0).trans rfl
  have f1 := (sblk_cell hf 1).trans rfl
  have n1 : ¬ (gf = w.heap.size + 1) := by omega
  have n2 : ¬ (w.heap.size + 1 = gf) := by omega
  go_region_with (fail)
  all_goals
    go_wp2
    have U3 := (U2.out.setR (.slice A0_0 l0_0.length c0_0) (.slice A0_1 l0_1.length c0_1)).setQ (.int .i64 t1) (.int .u64 t2)
    have f0 := (sblk_cell U3.r 0).trans rfl
    have f1 := (sblk_cell U3.r 1).trans rfl
    have f2 := (sblk_cell U3.q 0).trans rfl
    have f3 := (sblk_cell U3.q 1).trans rfl
    exact bodyPost_ret (v := .tuple #[.agg #[.slice A0_0 l0_0.length c0_0, .slice A0_1 l0_1.length c0_1], .agg #[.int .i64 t1, .int .u64 t2]]) (by simp [results, Try.results76, go_sem, hu, huf, f0, f1, f2, f3]) rfl ⟨_, _, rfl, view_old VM.out U3.bel.drew (fun k hk => .inl (.inl hk)), view_old VC.out U3.bel.drew (fun k hk => .inl (.inr hk)), U3.bel.drew⟩
end Go.Proofs.Ytgkjdpdmmlalcaa.F
end
