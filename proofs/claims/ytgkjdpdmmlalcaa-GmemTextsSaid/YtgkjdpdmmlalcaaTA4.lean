import Derived.Test.YtgkjdpdmmlalcaaTZF0
import Derived.Test.YtgkjdpdmmlalcaaTA0
import Derived.Test.YtgkjdpdmmlalcaaTA1HHost0
import Derived.Test.YtgkjdpdmmlalcaaTA2
section
namespace Go.Proofs.Ytgkjdpdmmlalcaa.F
open Go.RowKit Go.Proofs.YtgkjdpdmmlalcaaW.PrintWords Go.Proofs.YtgkjdpdmmlalcaaW.PrintLast Go.Proofs.YtgkjdpdmmlalcaaW.PrintMore
attribute [local go_sem] max2_int min2_int max_two min_two max_three min_three max_four min_four
set_option linter.unusedVariables false
set_option linter.unusedSimpArgs false

def host_within.f (a0 : Int) (a1 : Int) (a2 : Int) : Option (Bool) := if a0 ≥ a1 then (some (decide ((IntKind.u64.wrap (a0 - a1)) < a2))) else (some false)
end Go.Proofs.Ytgkjdpdmmlalcaa.F
end
section
namespace Go.Proofs.Ytgkjdpdmmlalcaa.F
open Go.RowKit Go.Shelf Go.Proofs.YtgkjdpdmmlalcaaW.PrintWords Go.Proofs.YtgkjdpdmmlalcaaW.PrintLast Go.Proofs.YtgkjdpdmmlalcaaW.PrintMore
set_option linter.unusedVariables false
set_option linter.unusedSimpArgs false
def withB (p a n : Int) : Bool := (host_within.f p a n).getD false
structure UmW (w W : World) (m c : Value) (pg n : Int) (x y : Value) : Prop where
  bel : Below w.heap.size w W
  h : W.heap[w.heap.size]? = some (.cells #[m, c] 25 (0, 0))
  p : W.heap[w.heap.size + 1]? = some (.cells #[.int .u64 pg] 26 (0, 0))
  q : W.heap[w.heap.size + 1 + 1]? = some (.cells #[.int .u64 n] 26 (0, 0))
  r : W.heap[w.heap.size + 1 + 1 + 1]? = some (.cells #[x, y] 25 (0, 0))
  s : w.heap.size + 4 ≤ W.heap.size
theorem UmW.first (w : World) (m c : Value) (pg n : Int) : UmW w ((((w.alloc (.cells #[m, c] 25)).alloc (.cells #[.int .u64 pg] 26)).alloc (.cells #[.int .u64 n] 26)).alloc (.cells #[.slice none 0 0, .slice none 0 0] 25)) m c pg n (.slice none 0 0) (.slice none 0 0) := by
  have s1 : ∀ (W : World) o, (W.alloc o).heap.size = W.heap.size + 1 := fun W o => World.size_alloc W o
  have b1 : Below w.heap.size w (w.alloc (.cells #[m, c] 25)) := (Below.refl _ _).alloc (Nat.le_refl _) _
  have b2 := b1.alloc (by rw [s1]; omega) (.cells #[.int .u64 pg] 26)
  have b3 := b2.alloc (by rw [s1, s1]; omega) (.cells #[.int .u64 n] 26)
  have b4 := b3.alloc (by rw [s1, s1, s1]; omega) (.cells #[.slice none 0 0, .slice none 0 0] 25)
  have n1 := blk_new w (.cells #[m, c] 25)
  have n2 := blk_new (w.alloc (.cells #[m, c] 25)) (.cells #[.int .u64 pg] 26)
  have n3 := blk_new ((w.alloc (.cells #[m, c] 25)).alloc (.cells #[.int .u64 pg] 26)) (.cells #[.int .u64 n] 26)
  have n4 := blk_new (((w.alloc (.cells #[m, c] 25)).alloc (.cells #[.int .u64 pg] 26)).alloc (.cells #[.int .u64 n] 26)) (.cells #[.slice none 0 0, .slice none 0 0] 25)
  rw [s1] at n2
  rw [s1, s1] at n3
  rw [s1, s1, s1] at n4
  exact ⟨b4, blk_alloc (blk_alloc (blk_alloc n1 _) _) _, blk_alloc (blk_alloc n2 _) _, blk_alloc n3 _, n4, by rw [s1, s1, s1, s1]; omega⟩
theorem UmW.step {w W W' : World} {m c x y : Value} {pg n : Int} (h : UmW w W m c pg n x y) (hb : Below (w.heap.size + 4) W W') : UmW w W' m c pg n x y :=
  ⟨h.bel.trans (hb.mono (by omega)), (hb.block _ (by omega)).trans h.h, (hb.block _ (by omega)).trans h.p, (hb.block _ (by omega)).trans h.q, (hb.block _ (by omega)).trans h.r, Nat.le_trans h.s hb.size⟩
theorem UmW.set1 {w W : World} {m c x y : Value} {pg n : Int} (h : UmW w W m c pg n x y) (u : Value) : UmW w (W.setCell ⟨w.heap.size, 1, none⟩ u) m u pg n x y :=
  have hk : ∀ k, k ≠ w.heap.size → (W.setCell ⟨w.heap.size, 1, none⟩ u).heap[k]? = W.heap[k]? := fun k hk => Below.heap_setCell W _ u k hk
  ⟨h.bel.setCell (Nat.le_refl _) _, blk_put h.h 1 u rfl, (hk _ (by omega)).trans h.p, (hk _ (by omega)).trans h.q, (hk _ (by omega)).trans h.r, by simpa [World.setCell] using h.s⟩
theorem UmW.setR {w W : World} {m c x y : Value} {pg n : Int} (h : UmW w W m c pg n x y) (u v : Value) : UmW w ((W.setCell ⟨w.heap.size + 1 + 1 + 1, 0, none⟩ u).setCell ⟨w.heap.size + 1 + 1 + 1, 1, none⟩ v) m c pg n u v :=
  have hk : ∀ k, k ≠ w.heap.size + 1 + 1 + 1 → ((W.setCell ⟨w.heap.size + 1 + 1 + 1, 0, none⟩ u).setCell ⟨w.heap.size + 1 + 1 + 1, 1, none⟩ v).heap[k]? = W.heap[k]? := fun k hk => (Below.heap_setCell _ _ v k hk).trans (Below.heap_setCell W _ u k hk)
  ⟨(h.bel.setCell (by show w.heap.size ≤ w.heap.size + 1 + 1 + 1; omega) _).setCell (by show w.heap.size ≤ w.heap.size + 1 + 1 + 1; omega) _, (hk _ (by omega)).trans h.h, (hk _ (by omega)).trans h.p, (hk _ (by omega)).trans h.q, blk_put (blk_put h.r 0 u rfl) 1 v rfl, by simpa [World.setCell] using h.s⟩
theorem UmW.below {w W W' : World} {m c x y : Value} {pg n : Int} (h : UmW w W m c pg n x y) (hb : Below W.heap.size W W') : UmW w W' m c pg n x y := h.step (hb.mono h.s)
theorem view_old {α : Type} {d : Kd α} {e : Nat} {w w' : World} {ok ok' : Nat → Prop} {v : Value} {l : List α} (h : Kd.V d e w w.heap.size ok v l) (hb : Below w.heap.size w w') (hok : ∀ k, ok k → ok' k) : Kd.V d e w' w.heap.size ok' v l := Kd.V_mono (Kd.V_below h hb) hok
theorem set_far {w : World} {g j k : Nat} {v : Value} (h : k ≠ g) : (w.setCell ⟨g, j, none⟩ v).heap[k]? = w.heap[k]? := Below.heap_setCell w _ v k h
-- HAND fn=ferry/host.Unmap ; rounds=0 ; making=1 ; laid=0 ; share=0_0,0_1 ; views=0,1
end Go.Proofs.Ytgkjdpdmmlalcaa.F
end
section
namespace Go.Proofs.Ytgkjdpdmmlalcaa.F
open Go.RowKit Go.Shelf Go.Proofs.YtgkjdpdmmlalcaaW.PrintWords Go.Proofs.YtgkjdpdmmlalcaaW.PrintLast Go.Proofs.YtgkjdpdmmlalcaaW.PrintMore
set_option linter.unusedVariables false
set_option linter.unusedSimpArgs false
def moreP (a1 : Int) (n : Nat) (a3 : Int) : List S83 := (List.range n).map (fun i : Nat => ⟨IntKind.u64.wrap (a1 + ((i : Nat) : Int)), a3⟩)
-- HAND fn=ferry/host.Map ; rounds=0 ; making=1 ; laid=0 ; share=0_0,0_1 ; views=0,1
theorem map_at_some {l0_0 : List S83} (l0_1 : List S88) (a1 : Int) (h : l0_0.length ≤ 1000000) (hr : risesB mpK l0_0 = true) : host_mapAt.f l0_0 l0_1 a1 = some (((lowB mpK a1 l0_0 : Nat) : Int), has mpK a1 l0_0) := by
  unfold host_mapAt.f
  rw [if_pos ⟨h, hr⟩]
end Go.Proofs.Ytgkjdpdmmlalcaa.F
end
section
namespace Go.Proofs.Ytgkjdpdmmlalcaa.F
open Go.RowKit Go.Shelf Go.Proofs.YtgkjdpdmmlalcaaW.PrintWords Go.Proofs.YtgkjdpdmmlalcaaW.PrintLast Go.Proofs.YtgkjdpdmmlalcaaW.PrintMore
set_option linter.unusedVariables false
set_option linter.unusedSimpArgs false
theorem mp_getR {l : List S83} {k : Nat} (h : k < l.length) : rd_T83 l (k : Int) = l[k] := by
  unfold rd_T83
  simp [h]
theorem cl_getR {l : List S88} {k : Nat} (h : k < l.length) : rd_T88 l (k : Int) = l[k] := by
  unfold rd_T88
  simp [h]
end Go.Proofs.Ytgkjdpdmmlalcaa.F
end
