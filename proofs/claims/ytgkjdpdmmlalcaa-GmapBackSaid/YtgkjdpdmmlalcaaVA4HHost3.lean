import Derived.Test.YtgkjdpdmmlalcaaVZF0
import Derived.Test.YtgkjdpdmmlalcaaVA0
import Derived.Test.YtgkjdpdmmlalcaaVA1HHost1
import Derived.Test.YtgkjdpdmmlalcaaVA3
section
namespace Go.Proofs.Ytgkjdpdmmlalcaa.F
open Go.RowKit Go.Shelf Go.Proofs.YtgkjdpdmmlalcaaW.PrintWords Go.Proofs.YtgkjdpdmmlalcaaW.PrintLast Go.Proofs.YtgkjdpdmmlalcaaW.PrintMore
set_option linter.unusedVariables false
set_option linter.unusedSimpArgs false
def withB (p a n : Int) : Bool := (host_within.f p a n).getD false
theorem withB_some (p a n : Int) : host_within.f p a n = some (withB p a n) := by
  unfold withB host_within.f
  split <;> rfl
structure UmW (w W : World) (m c : Value) (pg n : Int) (x y : Value) : Prop where
  bel : Below w.heap.size w W
  h : W.heap[w.heap.size]? = some (.cells #[m, c] 25 (0, 0))
  p : W.heap[w.heap.size + 1]? = some (.cells #[.int .u64 pg] 26 (0, 0))
  q : W.heap[w.heap.size + 1 + 1]? = some (.cells #[.int .u64 n] 26 (0, 0))
  r : W.heap[w.heap.size + 1 + 1 + 1]? = some (.cells #[x, y] 25 (0, 0))
  s : w.heap.size + 4 ≤ W.heap.size
theorem UmW.first (w : World) (m c : Value) (pg n : Int) : UmW w ((((w.alloc (.cells #[m, c] 25)).alloc (.cells #[.int .u64 pg] 26)).alloc (.cells #[.int .u64 n] 26)).alloc (.cells #[.slice none 0 0, .slice none 0 0] 25)) m c pg n (.slice none 0 0) (.slice none 0 0) := by
  have s1 : ∀ (W : World) o, (W.alloc o).heap.size = W.heap.size + 1 := fun W o => World.size_alloc W o
  have b1 : Below w.heap.size w (w.alloc (.cells #[m, c] 25)) := (Below.refl _ _).alloc (Nat.le_refl _) _
  have b2 := b1.alloc (by rw [s1]; omega) (.cells #[.int .u64 pg] 26)
  have b3 := b2.alloc (by rw [s1, s1]; omega) (.cells #[.int .u64 n] 26)
  have b4 := b3.alloc (by rw [s1, s1, s1]; omega) (.cells #[.slice none 0 0, .slice none 0 0] 25)
  have n1 := blk_new w (.cells #[m, c] 25)
  have n2 := blk_new (w.alloc (.cells #[m, c] 25)) (.cells #[.int .u64 pg] 26)
  have n3 := blk_new ((w.alloc (.cells #[m, c] 25)).alloc (.cells #[.int .u64 pg] 26)) (.cells #[.int .u64 n] 26)
  have n4 := blk_new (((w.alloc (.cells #[m, c] 25)).alloc (.cells #[.int .u64 pg] 26)).alloc (.cells #[.int .u64 n] 26)) (.cells #[.slice none 0 0, .slice none 0 0] 25)
  rw [s1] at n2
  rw [s1, s1] at n3
  rw [s1, s1, s1] at n4
  exact ⟨b4, blk_alloc (blk_alloc (blk_alloc n1 _) _) _, blk_alloc (blk_alloc n2 _) _, blk_alloc n3 _, n4, by rw [s1, s1, s1, s1]; omega⟩
theorem UmW.step {w W W' : World} {m c x y : Value} {pg n : Int} (h : UmW w W m c pg n x y) (hb : Below (w.heap.size + 4) W W') : UmW w W' m c pg n x y :=
  ⟨h.bel.trans (hb.mono (by omega)), (hb.block _ (by omega)).trans h.h, (hb.block _ (by omega)).trans h.p, (hb.block _ (by omega)).trans h.q, (hb.block _ (by omega)).trans h.r, Nat.le_trans h.s hb.size⟩
theorem UmW.set0 {w W : World} {m c x y : Value} {pg n : Int} (h : UmW w W m c pg n x y) (u : Value) : UmW w (W.setCell ⟨w.heap.size, 0, none⟩ u) u c pg n x y :=
  have hk : ∀ k, k ≠ w.heap.size → (W.setCell ⟨w.heap.size, 0, none⟩ u).heap[k]? = W.heap[k]? := fun k hk => Below.heap_setCell W _ u k hk
  ⟨h.bel.setCell (Nat.le_refl _) _, blk_put h.h 0 u rfl, (hk _ (by omega)).trans h.p, (hk _ (by omega)).trans h.q, (hk _ (by omega)).trans h.r, by simpa [World.setCell] using h.s⟩
theorem UmW.set1 {w W : World} {m c x y : Value} {pg n : Int} (h : UmW w W m c pg n x y) (u : Value) : UmW w (W.setCell ⟨w.heap.size, 1, none⟩ u) m u pg n x y :=
  have hk : ∀ k, k ≠ w.heap.size → (W.setCell ⟨w.heap.size, 1, none⟩ u).heap[k]? = W.heap[k]? := fun k hk => Below.heap_setCell W _ u k hk
  ⟨h.bel.setCell (Nat.le_refl _) _, blk_put h.h 1 u rfl, (hk _ (by omega)).trans h.p, (hk _ (by omega)).trans h.q, (hk _ (by omega)).trans h.r, by simpa [World.setCell] using h.s⟩
theorem UmW.setR {w W : World} {m c x y : Value} {pg n : Int} (h : UmW w W m c pg n x y) (u v : Value) : UmW w ((W.setCell ⟨w.heap.size + 1 + 1 + 1, 0, none⟩ u).setCell ⟨w.heap.size + 1 + 1 + 1, 1, none⟩ v) m c pg n u v :=
  have hk : ∀ k, k ≠ w.heap.size + 1 + 1 + 1 → ((W.setCell ⟨w.heap.size + 1 + 1 + 1, 0, none⟩ u).setCell ⟨w.heap.size + 1 + 1 + 1, 1, none⟩ v).heap[k]? = W.heap[k]? := fun k hk => (Below.heap_setCell _ _ v k hk).trans (Below.heap_setCell W _ u k hk)
  ⟨(h.bel.setCell (by show w.heap.size ≤ w.heap.size + 1 + 1 + 1; omega) _).setCell (by show w.heap.size ≤ w.heap.size + 1 + 1 + 1; omega) _, (hk _ (by omega)).trans h.h, (hk _ (by omega)).trans h.p, (hk _ (by omega)).trans h.q, blk_put (blk_put h.r 0 u rfl) 1 v rfl, by simpa [World.setCell] using h.s⟩
theorem UmW.below {w W W' : World} {m c x y : Value} {pg n : Int} (h : UmW w W m c pg n x y) (hb : Below W.heap.size W W') : UmW w W' m c pg n x y := h.step (hb.mono h.s)
set_option maxHeartbeats 4000000 in
theorem mp_delf_nil.calls (pf : Nat) (cp : Array Value) (eg : ∀ args w, (callFunc pf args).run Try.prog w = .ok (.enter pf args) w) (w : World) :
    Calls Try.prog 134 #[.slice none 0 0, .func (.func pf) #[] cp] w fun e w' => e = .returned (.slice none 0 0) ∧ Below w.heap.size w w' := by
  have IX : Hid (Calls Try.prog 150 #[.slice none 0 0, .func (.func pf) #[] cp] w fun e w' => e = .returned (.int .i64 (-1)) ∧ Below w.heap.size w w') := by
    refine Lib.hid ?_
    go_enter Try.func150, Try.ntmps150
    go_wp2
    go_loopw [8] (fun t wr => t = .int .i64 0 ∧ wr = w) (fun _ _ => 0)
    case atStart => exact ⟨rfl, rfl⟩
    case round =>
      obtain ⟨rfl, rfl⟩ := hrel
      go_wp2
      go_ret
      exact ⟨rfl, Below.refl _ _⟩
  go_enter Try.func134, Try.ntmps134
  go_wp2_with (go_at_call 150; (with_reducible refine IX.out.mono ?_); rintro e w1 ⟨rfl, hb⟩)
  go_ret
  exact ⟨rfl, hb⟩
theorem mp_delfR.calls (p : S83 → Bool) (pf : Nat) (cp : Array Value) (eg : ∀ args w, (callFunc pf args).run Try.prog w = .ok (.enter pf args) w) (B : Nat) (ok : Nat → Prop) (v : Value) (l : List S83) (w : World) (hR : Kd.R k83 83 w B ok v l) (hB : B ≤ w.heap.size) (hl : l.length ≤ 1000000)
    (HP : ∀ (x : S83) (W : World), (∀ k, k < B → W.heap[k]? = w.heap[k]?) → w.heap.size ≤ W.heap.size → Calls Try.prog pf (#[.agg #[.int .u64 x.f0, .int .i64 x.f1]] ++ cp) W fun e w' => e = .returned (.bool (p x)) ∧ Below W.heap.size W w') :
    Calls Try.prog 134 #[v, .func (.func pf) #[] cp] w fun ex w' => ∃ v', ex = .returned v' ∧ Kd.R k83 83 w' B (fun _ => True) v' (l.filter (fun x => !p x)) ∧ Below B w w' := by
  rcases mp_own hR with ⟨rfl, rfl⟩ | ⟨g, cap, rfl, hg, ho⟩
  · refine (mp_delf_nil.calls pf cp eg w).mono ?_
    rintro e w' ⟨rfl, hb⟩
    exact ⟨_, rfl, Kd.R_nil _ _ _ _ _, hb.mono hB⟩
  · refine (mp_delf.calls p pf cp eg g cap l w ho hl (fun x W hW => HP x W (fun k hk => hW.block k (by omega) (fun e => by injection e with e; omega)) hW.size)).mono ?_
    rintro e w' ⟨rfl, h1, h2⟩
    exact ⟨_, rfl, mp_R h1 hg, below_of_grown (Below.refl _ _) h2 hg hB⟩
set_option maxHeartbeats 4000000 in
theorem cl_delf_nil.calls (pf : Nat) (cp : Array Value) (eg : ∀ args w, (callFunc pf args).run Try.prog w = .ok (.enter pf args) w) (w : World) :
    Calls Try.prog 136 #[.slice none 0 0, .func (.func pf) #[] cp] w fun e w' => e = .returned (.slice none 0 0) ∧ Below w.heap.size w w' := by
  have IX : Hid (Calls Try.prog 157 #[.slice none 0 0, .func (.func pf) #[] cp] w fun e w' => e = .returned (.int .i64 (-1)) ∧ Below w.heap.size w w') := by
    refine Lib.hid ?_
    go_enter Try.func157, Try.ntmps157
    go_wp2
    go_loopw [8] (fun t wr => t = .int .i64 0 ∧ wr = w) (fun _ _ => 0)
    case atStart => exact ⟨rfl, rfl⟩
    case round =>
      obtain ⟨rfl, rfl⟩ := hrel
      go_wp2
      go_ret
      exact ⟨rfl, Below.refl _ _⟩
  go_enter Try.func136, Try.ntmps136
  go_wp2_with (go_at_call 157; (with_reducible refine IX.out.mono ?_); rintro e w1 ⟨rfl, hb⟩)
  go_ret
  exact ⟨rfl, hb⟩
theorem cl_delfR.calls (p : S88 → Bool) (pf : Nat) (cp : Array Value) (eg : ∀ args w, (callFunc pf args).run Try.prog w = .ok (.enter pf args) w) (B : Nat) (ok : Nat → Prop) (v : Value) (l : List S88) (w : World) (hR : Kd.R k88 88 w B ok v l) (hB : B ≤ w.heap.size) (hl : l.length ≤ 1000000)
    (HP : ∀ (x : S88) (W : World), (∀ k, k < B → W.heap[k]? = w.heap[k]?) → w.heap.size ≤ W.heap.size → Calls Try.prog pf (#[.agg #[.int .u64 x.f0, .int .u64 x.f1]] ++ cp) W fun e w' => e = .returned (.bool (p x)) ∧ Below W.heap.size W w') :
    Calls Try.prog 136 #[v, .func (.func pf) #[] cp] w fun ex w' => ∃ v', ex = .returned v' ∧ Kd.R k88 88 w' B (fun _ => True) v' (l.filter (fun x => !p x)) ∧ Below B w w' := by
  rcases cl_own hR with ⟨rfl, rfl⟩ | ⟨g, cap, rfl, hg, ho⟩
  · refine (cl_delf_nil.calls pf cp eg w).mono ?_
    rintro e w' ⟨rfl, hb⟩
    exact ⟨_, rfl, Kd.R_nil _ _ _ _ _, hb.mono hB⟩
  · refine (cl_delf.calls p pf cp eg g cap l w ho hl (fun x W hW => HP x W (fun k hk => hW.block k (by omega) (fun e => by injection e with e; omega)) hW.size)).mono ?_
    rintro e w' ⟨rfl, h1, h2⟩
    exact ⟨_, rfl, cl_R h1 hg, below_of_grown (Below.refl _ _) h2 hg hB⟩
set_option maxHeartbeats 4000000 in
theorem um_map.calls (x : S83) (pa pn : Nat) (pg n : Int) (w : World) (h1 : w.heap[pa]? = some (.cells #[.int .u64 pg] 26 (0, 0))) (h2 : w.heap[pn]? = some (.cells #[.int .u64 n] 26 (0, 0))) :
    Calls Try.prog 135 #[.agg #[.int .u64 x.f0, .int .i64 x.f1], .pointer (some ⟨pa, 0, none⟩), .pointer (some ⟨pn, 0, none⟩)] w fun e w' => e = .returned (.bool (withB (x.f0) pg n)) ∧ Below w.heap.size w w' := by
  have WI := Lib.hid (fun w => host_within.calls _ _ _ _ w (withB_some (x.f0) pg n))
  have B0 : Below w.heap.size w (w.alloc (.cells #[.int .u64 x.f0, .int .i64 x.f1] 83)) := (Below.refl _ w).alloc (Nat.le_refl _) _
  have c1 := (B0.cell (p := ⟨pa, 0, none⟩) (sblk_lt h1)).trans ((sblk_cell h1 0).trans rfl)
  have c2 := (B0.cell (p := ⟨pn, 0, none⟩) (sblk_lt h2)).trans ((sblk_cell h2 0).trans rfl)
  have TB := Lib.hid B0
  have hu := Try.underlying83
  clear h1 h2 B0
  go_enter Try.func135, Try.ntmps135
  go_wp2_with (go_at_call 125; (with_reducible refine (WI.out _).mono ?_); rintro e w1 ⟨rfl, ⟨nd, rfl⟩⟩)
  go_ret
  exact ⟨rfl, pw_below_drewN TB.out nd⟩
set_option maxHeartbeats 4000000 in
theorem um_cell.calls (x : S88) (pa pn : Nat) (pg n : Int) (w : World) (h1 : w.heap[pa]? = some (.cells #[.int .u64 pg] 26 (0, 0))) (h2 : w.heap[pn]? = some (.cells #[.int .u64 n] 26 (0, 0))) :
    Calls Try.prog 137 #[.agg #[.int .u64 x.f0, .int .u64 x.f1], .pointer (some ⟨pa, 0, none⟩), .pointer (some ⟨pn, 0, none⟩)] w fun e w' => e = .returned (.bool (withB (IntKind.u64.wrap (Int.tdiv x.f0 16384)) pg n)) ∧ Below w.heap.size w w' := by
  have WI := Lib.hid (fun w => host_within.calls _ _ _ _ w (withB_some (IntKind.u64.wrap (Int.tdiv x.f0 16384)) pg n))
  have B0 : Below w.heap.size w (w.alloc (.cells #[.int .u64 x.f0, .int .u64 x.f1] 88)) := (Below.refl _ w).alloc (Nat.le_refl _) _
  have c1 := (B0.cell (p := ⟨pa, 0, none⟩) (sblk_lt h1)).trans ((sblk_cell h1 0).trans rfl)
  have c2 := (B0.cell (p := ⟨pn, 0, none⟩) (sblk_lt h2)).trans ((sblk_cell h2 0).trans rfl)
  have TB := Lib.hid B0
  have hu := Try.underlying88
  clear h1 h2 B0
  go_enter Try.func137, Try.ntmps137
  go_wp2_with (go_at_call 125; (with_reducible refine (WI.out _).mono ?_); rintro e w1 ⟨rfl, ⟨nd, rfl⟩⟩)
  go_ret
  exact ⟨rfl, pw_below_drewN TB.out nd⟩
set_option maxHeartbeats 4000000 in
theorem mp_map.calls (x : S83) (pa pn : Nat) (pg n : Int) (w : World) (h1 : w.heap[pa]? = some (.cells #[.int .u64 pg] 26 (0, 0))) (h2 : w.heap[pn]? = some (.cells #[.int .u64 n] 26 (0, 0))) :
    Calls Try.prog 124 #[.agg #[.int .u64 x.f0, .int .i64 x.f1], .pointer (some ⟨pa, 0, none⟩), .pointer (some ⟨pn, 0, none⟩)] w fun e w' => e = .returned (.bool (withB (x.f0) pg n)) ∧ Below w.heap.size w w' := by
  have WI := Lib.hid (fun w => host_within.calls _ _ _ _ w (withB_some (x.f0) pg n))
  have B0 : Below w.heap.size w (w.alloc (.cells #[.int .u64 x.f0, .int .i64 x.f1] 83)) := (Below.refl _ w).alloc (Nat.le_refl _) _
  have c1 := (B0.cell (p := ⟨pa, 0, none⟩) (sblk_lt h1)).trans ((sblk_cell h1 0).trans rfl)
  have c2 := (B0.cell (p := ⟨pn, 0, none⟩) (sblk_lt h2)).trans ((sblk_cell h2 0).trans rfl)
  have TB := Lib.hid B0
  have hu := Try.underlying83
  clear h1 h2 B0
  go_enter Try.func124, Try.ntmps124
  go_wp2_with (go_at_call 125; (with_reducible refine (WI.out _).mono ?_); rintro e w1 ⟨rfl, ⟨nd, rfl⟩⟩)
  go_ret
  exact ⟨rfl, pw_below_drewN TB.out nd⟩
theorem view_old {α : Type} {d : Kd α} {e : Nat} {w w' : World} {ok ok' : Nat → Prop} {v : Value} {l : List α} (h : Kd.V d e w w.heap.size ok v l) (hb : Below w.heap.size w w') (hok : ∀ k, ok k → ok' k) : Kd.V d e w' w.heap.size ok' v l := Kd.V_mono (Kd.V_below h hb) hok
theorem fresh_of {α : Type} {d : Kd α} {e B base : Nat} {w : World} {ok : Nat → Prop} {v : Value} {l : List α} (h : Kd.R d e w B ok v l) : Kd.V d e w base (fun k => B ≤ k ∧ k < w.heap.size) v l :=
  Kd.V_mono (Kd.R_V (Kd.R_bound h)) (fun k hk => ⟨hk.2.1, hk.2.2.1⟩)
theorem fresh_step {α : Type} {d : Kd α} {e B N base : Nat} {w w' : World} {v : Value} {l : List α} (h : Kd.V d e w base (fun k => B ≤ k ∧ k < N) v l) (hm : ∀ k, B ≤ k → k < N → w'.heap[k]? = w.heap[k]?) : Kd.V d e w' base (fun k => B ≤ k ∧ k < N) v l :=
  Kd.V_step h (fun k hk _ => hm k hk.1 hk.2)
theorem set_far {w : World} {g j k : Nat} {v : Value} (h : k ≠ g) : (w.setCell ⟨g, j, none⟩ v).heap[k]? = w.heap[k]? := Below.heap_setCell w _ v k h
-- HAND fn=ferry/host.Unmap ; rounds=0 ; making=1 ; laid=0 ; share=0_0,0_1 ; views=0,1
def host_Unmap.f (l0_0 : List S83) (l0_1 : List S88) (a1 a2 : Int) : Option (List S83 × List S88 × Int) :=
  (host_wrong.f a1 a2 0).bind fun t => if t = true then some (l0_0, l0_1, 22) else if l0_0.length ≤ 1000000 ∧ l0_1.length ≤ 1000000 then some (l0_0.filter (fun x => !withB x.f0 a1 a2), l0_1.filter (fun x => !withB (IntKind.u64.wrap (Int.tdiv x.f0 16384)) a1 a2), 0) else none
set_option maxHeartbeats 8000000 in
set_option maxRecDepth 100000 in
theorem host_Unmap.calls (P0_0_ : Nat → Prop) (A0_0 : Option Addr) (c0_0 : Nat) (l0_0 : List S83) (P0_1_ : Nat → Prop) (A0_1 : Option Addr) (c0_1 : Nat) (l0_1 : List S88) (a1 a2 : Int) (r1 : List S83) (r2 : List S88) (r3 : Int) (w : World) (hs0_0 : Kd.V k83 83 w w.heap.size (fun k_ => P0_0_ k_) (.slice A0_0 l0_0.length c0_0) l0_0) (hs0_1 : Kd.V k88 88 w w.heap.size (fun k_ => P0_1_ k_) (.slice A0_1 l0_1.length c0_1) l0_1) (h : host_Unmap.f l0_0 l0_1 a1 a2 = some (r1, r2, r3)) :
    Calls Try.prog 100 #[.agg #[.slice A0_0 l0_0.length c0_0, .slice A0_1 l0_1.length c0_1], .int .u64 a1, .int .u64 a2] w fun e w' => ∃ v0_ v1_ : Value, e = .returned (.tuple #[.agg #[v0_, v1_], .int .i64 r3]) ∧ Kd.V k83 83 w' w.heap.size (fun k_ => ((P0_0_ k_ ∨ P0_1_ k_) ∨ w.heap.size ≤ k_)) v0_ r1 ∧ Kd.V k88 88 w' w.heap.size (fun k_ => ((P0_0_ k_ ∨ P0_1_ k_) ∨ w.heap.size ≤ k_)) v1_ r2 ∧ Below w.heap.size w w' := by
  unfold host_Unmap.f at h
  obtain ⟨t, ht, h⟩ := Option.bind_eq_some_iff.1 h
  have WR := Lib.hid (fun w => host_wrong.calls a1 a2 0 t w ht)
  clear ht
  have VM := Lib.hid hs0_0
  have VC := Lib.hid hs0_1
  have CM := Lib.hid (Kd.V_reads' hs0_0)
  have CC := Lib.hid (Kd.V_reads' hs0_1)
  have U0 := Lib.hid (UmW.first w (.slice A0_0 l0_0.length c0_0) (.slice A0_1 l0_1.length c0_1) a1 a2)
  clear hs0_0 hs0_1
  have hu := Try.underlying25
  go_enter Try.func100, Try.ntmps100
  have p0 := (sblk_cell U0.out.p 0).trans rfl
  have q0 := (sblk_cell U0.out.q 0).trans rfl
  go_wp2_with (fail)
  refine (WR.out _).mono ?_
  rintro e w1 ⟨rfl, ⟨nd, rfl⟩⟩
  have U1 := Lib.hid (U0.out.below (pw_below_drewN (Below.refl _ _) nd))
  clear U0 p0 q0 WR
  generalize World.drewN _ nd = w1 at U1 ⊢
  cases t
  · rw [if_neg (by simp)] at h
    split at h
    rotate_left
    · cases h
    rename_i hl
    obtain ⟨rfl, h'⟩ := Prod.mk.inj (Option.some.inj h)
    obtain ⟨rfl, rfl⟩ := Prod.mk.inj h'
    clear h h'
    have h0 := (sblk_cell U1.out.h 0).trans rfl
    go_wp2_with (fail)
    refine (mp_clone.calls A0_0 c0_0 l0_0 w1 (Kd.C_below CM.out.2.2 U1.out.bel) CM.out.2.1 hl.1).mono ?_
    rintro e w2 ⟨v1, rfl, hR1, hb1⟩
    have U2 := Lib.hid (U1.out.below hb1)
    have RR1 := Lib.hid hR1
    have S1 := Lib.hid U1.out.s
    have Z1 := Lib.hid hb1.size
    clear hR1 hb1 h0
    go_wp2_with (fail)
    refine (mp_delfR.calls (fun x => withB x.f0 a1 a2) 135 #[.pointer (some ⟨w.heap.size + 1, 0, none⟩), .pointer (some ⟨w.heap.size + 1 + 1, 0, none⟩)] (fun _ _ => by kernel_rfl) w1.heap.size _ v1 l0_0 w2 RR1.out Z1.out hl.1 (fun x W hk hs => um_map.calls x _ _ a1 a2 W ((hk _ (by have := S1.out; omega)).trans U2.out.p) ((hk _ (by have := S1.out; omega)).trans U2.out.q))).mono ?_
    rintro e w3 ⟨v2, rfl, hR2, hb2⟩
    have U3 := Lib.hid (U2.out.step (hb2.mono S1.out))
    obtain ⟨A2, c2, rfl⟩ := Kd.R_slice hR2
    have V3 := Lib.hid (fresh_of (base := w.heap.size) hR2)
    have Z3 := Lib.hid hb2.size
    clear hR2 hb2
    have hc0 := (sblk_cell U3.out.h 0).trans rfl
    have hc1 := (sblk_cell U3.out.h 1).trans rfl
    have hz0 := sblk_free U3.out.h 0
    have hz1 := sblk_free U3.out.h 1
    go_wp2_with (fail)
    have U4 := Lib.hid (U3.out.set0 (.slice A2 (l0_0.filter (fun x => !withB x.f0 a1 a2)).length c2))
    have V4 := Lib.hid (fresh_step V3.out (w' := w3.setCell ⟨w.heap.size, 0, none⟩ (.slice A2 (l0_0.filter (fun x => !withB x.f0 a1 a2)).length c2)) (fun k hk _ => set_far (by have := S1.out; omega)))
    have E4 := Lib.hid (show (w3.setCell ⟨w.heap.size, 0, none⟩ (.slice A2 (l0_0.filter (fun x => !withB x.f0 a1 a2)).length c2)).heap.size = w3.heap.size by simp [World.setCell])
    refine (cl_clone.calls A0_1 c0_1 l0_1 _ (Kd.C_below CC.out.2.2 U4.out.bel) CC.out.2.1 hl.2).mono ?_
    clear hc0 hc1 hz0 hz1
    generalize w3.setCell ⟨w.heap.size, 0, none⟩ _ = w4 at U4 V4 E4 ⊢
    rintro e w5 ⟨v3, rfl, hR3, hb3⟩
    have U5 := Lib.hid (U4.out.below hb3)
    have V5 := Lib.hid (fresh_step V4.out (fun k _ hk => hb3.block k (by rw [E4.out]; exact hk)))
    have RR3 := Lib.hid hR3
    have Z4 := Lib.hid hb3.size
    have S4 := Lib.hid U4.out.s
    clear hR3 hb3
    go_wp2_with (fail)
    refine (cl_delfR.calls (fun x => withB (IntKind.u64.wrap (Int.tdiv x.f0 16384)) a1 a2) 137 #[.pointer (some ⟨w.heap.size + 1, 0, none⟩), .pointer (some ⟨w.heap.size + 1 + 1, 0, none⟩)] (fun _ _ => by kernel_rfl) w4.heap.size _ v3 l0_1 w5 RR3.out Z4.out hl.2 (fun x W hk hs => um_cell.calls x _ _ a1 a2 W ((hk _ (by have := S4.out; omega)).trans U5.out.p) ((hk _ (by have := S4.out; omega)).trans U5.out.q))).mono ?_
    rintro e w6 ⟨v4, rfl, hR4, hb4⟩
    have U6 := Lib.hid (U5.out.step (hb4.mono S4.out))
    have V6 := Lib.hid (fresh_step V5.out (fun k _ hk => hb4.block k (by rw [E4.out]; exact hk)))
    obtain ⟨A4, c4, rfl⟩ := Kd.R_slice hR4
    have W6 := Lib.hid (fresh_of (base := w.heap.size) hR4)
    clear hR4 hb4
    have hc0 := (sblk_cell U6.out.h 0).trans rfl
    have hc1 := (sblk_cell U6.out.h 1).trans rfl
    have hz0 := sblk_free U6.out.h 0
    have hz1 := sblk_free U6.out.h 1
    have r0 := (sblk_cell U6.out.r 0).trans rfl
    have r1 := (sblk_cell U6.out.r 1).trans rfl
    have y0 := sblk_free U6.out.r 0
    have y1 := sblk_free U6.out.r 1
    go_wp2
    have U7 := (U6.out.set1 (.slice A4 (l0_1.filter (fun x => !withB (IntKind.u64.wrap (Int.tdiv x.f0 16384)) a1 a2)).length c4)).setR (.slice A2 (l0_0.filter (fun x => !withB x.f0 a1 a2)).length c2) (.slice A4 (l0_1.filter (fun x => !withB (IntKind.u64.wrap (Int.tdiv x.f0 16384)) a1 a2)).length c4)
    have f0 := (sblk_cell U7.r 0).trans rfl
    have f1 := (sblk_cell U7.r 1).trans rfl
    have s1 := S1.out
    have s4 := S4.out
    refine bodyPost_ret (v := .tuple #[.agg #[.slice A2 (l0_0.filter (fun x => !withB x.f0 a1 a2)).length c2, .slice A4 (l0_1.filter (fun x => !withB (IntKind.u64.wrap (Int.tdiv x.f0 16384)) a1 a2)).length c4], .int .i64 0]) (by simp [results, Try.results100, go_sem, f0, f1]) rfl ⟨_, _, rfl, ?_, ?_, U7.bel⟩
    · exact Kd.V_mono (fresh_step V6.out (fun k hk _ => (set_far (by omega)).trans ((set_far (by omega)).trans (set_far (by omega))))) (fun k hk => .inr (by omega))
    · exact Kd.V_mono (fresh_step W6.out (fun k hk _ => (set_far (by omega)).trans ((set_far (by omega)).trans (set_far (by omega))))) (fun k hk => .inr (by omega))
  · rw [if_pos rfl] at h
    obtain ⟨rfl, h'⟩ := Prod.mk.inj (Option.some.inj h)
    obtain ⟨rfl, rfl⟩ := Prod.mk.inj h'
    clear h h'
    have h0 := (sblk_cell U1.out.h 0).trans rfl
    have h1 := (sblk_cell U1.out.h 1).trans rfl
    have r0 := (sblk_cell U1.out.r 0).trans rfl
    have r1 := (sblk_cell U1.out.r 1).trans rfl
    have z0 := sblk_free U1.out.r 0
    have z1 := sblk_free U1.out.r 1
    go_wp2
    have U2 := U1.out.setR (.slice A0_0 l0_0.length c0_0) (.slice A0_1 l0_1.length c0_1)
    have f0 := (sblk_cell U2.r 0).trans rfl
    have f1 := (sblk_cell U2.r 1).trans rfl
    exact bodyPost_ret (v := .tuple #[.agg #[.slice A0_0 l0_0.length c0_0, .slice A0_1 l0_1.length c0_1], .int .i64 22]) (by simp [results, Try.results100, go_sem, f0, f1]) rfl ⟨_, _, rfl, view_old VM.out U2.bel (fun k hk => .inl (.inl hk)), view_old VC.out U2.bel (fun k hk => .inl (.inr hk)), U2.bel⟩
end Go.Proofs.Ytgkjdpdmmlalcaa.F
end
