import Derived.Below
import Derived.Deep.Draws
import Derived.Deep.AppendLies
import Derived.Maps.AppendAt
import Derived.OwnWalk
import Derived.Laws.BytesArg
import Derived.Laws.MakeOwn
import Derived.Laws.OwnMore
import Derived.Deep.OwnRows
import Derived.Tactics
import Derived.Lib.ConvBytes
import Derived.Laws.Slices
import Derived.WalkKit
import Derived.KernelRfl
import Derived.RowKit3
import Derived.Deep.LoopGhost
import Derived.Deep.QuietTactic
import Derived.BigQuiet
import Derived.WideLaws
import Derived.Deep.DeepCutAuto
import Derived.Deep.CutBlock
import Derived.Deep.RegionHeld3
import Derived.Laws.Rows
import Derived.Lib.AppendStr
import Derived.ArgAppend
import Derived.Laws.IdiomCopy
import Derived.RowKit
import Derived.OrdersHeld
import Derived.Laws.BitsLemmas
import Derived.Laws.StructEq
import Derived.OwnWalkIn
import Derived.ProofKit
import Derived.Lib.Hide
import Derived.Shelf.RegionOpen
import Derived.Shelf.Abstract
import Derived.Lib.SliceRun
import Derived.WalkSmall
import Derived.Laws.ResultCell
import Derived.Shelf.Spec.SlicesInsertGrow
import Derived.Test.YtlmmipdgedfboaaZF0
import Derived.Test.YtlmmipdgedfboaaYA1Slc
import Derived.Test.YtlmmipdgedfboaaYA4HHost1
import Derived.Test.YtlmmipdgedfboaaYA6
section
namespace Go.Proofs.Ytlmmipdgedfboaa.F
open Go.RowKit Go.Shelf Go.Proofs.YtlmmipdgedfboaaW.PrintWords Go.Proofs.YtlmmipdgedfboaaW.PrintLast Go.Proofs.YtlmmipdgedfboaaW.PrintMore
set_option linter.unusedVariables false
set_option linter.unusedSimpArgs false
def withB (p a n : Int) : Bool := (host_within.f p a n).getD false
theorem withB_some (p a n : Int) : host_within.f p a n = some (withB p a n) := by
  unfold withB host_within.f
  split <;> rfl
structure UmW (w W : World) (m c : Value) (pg n : Int) (x y : Value) : Prop where
  bel : Below w.heap.size w W
  h : W.heap[w.heap.size]? = some (.cells #[m, c] 25 (0, 0))
  p : W.heap[w.heap.size + 1]? = some (.cells #[.int .u64 pg] 26 (0, 0))
  q : W.heap[w.heap.size + 1 + 1]? = some (.cells #[.int .u64 n] 26 (0, 0))
  r : W.heap[w.heap.size + 1 + 1 + 1]? = some (.cells #[x, y] 25 (0, 0))
  s : w.heap.size + 4 ≤ W.heap.size
theorem UmW.first (w : World) (m c : Value) (pg n : Int) : UmW w ((((w.alloc (.cells #[m, c] 25)).alloc (.cells #[.int .u64 pg] 26)).alloc (.cells #[.int .u64 n] 26)).alloc (.cells #[.slice none 0 0, .slice none 0 0] 25)) m c pg n (.slice none 0 0) (.slice none 0 0) := by
  have s1 : ∀ (W : World) o, (W.alloc o).heap.size = W.heap.size + 1 := fun W o => World.size_alloc W o
  have b1 : Below w.heap.size w (w.alloc (.cells #[m, c] 25)) := (Below.refl _ _).alloc (Nat.le_refl _) _
  have b2 := b1.alloc (by rw [s1]; omega) (.cells #[.int .u64 pg] 26)
  have b3 := b2.alloc (by rw [s1, s1]; omega) (.cells #[.int .u64 n] 26)
  have b4 := b3.alloc (by rw [s1, s1, s1]; omega) (.cells #[.slice none 0 0, .slice none 0 0] 25)
  have n1 := blk_new w (.cells #[m, c] 25)
  have n2 := blk_new (w.alloc (.cells #[m, c] 25)) (.cells #[.int .u64 pg] 26)
  have n3 := blk_new ((w.alloc (.cells #[m, c] 25)).alloc (.cells #[.int .u64 pg] 26)) (.cells #[.int .u64 n] 26)
  have n4 := blk_new (((w.alloc (.cells #[m, c] 25)).alloc (.cells #[.int .u64 pg] 26)).alloc (.cells #[.int .u64 n] 26)) (.cells #[.slice none 0 0, .slice none 0 0] 25)
  rw [s1] at n2
  rw [s1, s1] at n3
  rw [s1, s1, s1] at n4
  exact ⟨b4, blk_alloc (blk_alloc (blk_alloc n1 _) _) _, blk_alloc (blk_alloc n2 _) _, blk_alloc n3 _, n4, by rw [s1, s1, s1, s1]; omega⟩
theorem UmW.step {w W W' : World} {m c x y : Value} {pg n : Int} (h : UmW w W m c pg n x y) (hb : Below (w.heap.size + 4) W W') : UmW w W' m c pg n x y :=
  ⟨h.bel.trans (hb.mono (by omega)), (hb.block _ (by omega)).trans h.h, (hb.block _ (by omega)).trans h.p, (hb.block _ (by omega)).trans h.q, (hb.block _ (by omega)).trans h.r, Nat.le_trans h.s hb.size⟩
theorem UmW.set0 {w W : World} {m c x y : Value} {pg n : Int} (h : UmW w W m c pg n x y) (u : Value) : UmW w (W.setCell ⟨w.heap.size, 0, none⟩ u) u c pg n x y :=
  have hk : ∀ k, k ≠ w.heap.size → (W.setCell ⟨w.heap.size, 0, none⟩ u).heap[k]? = W.heap[k]? := fun k hk => Below.heap_setCell W _ u k hk
  ⟨h.bel.setCell (Nat.le_refl _) _, blk_put h.h 0 u rfl, (hk _ (by omega)).trans h.p, (hk _ (by omega)).trans h.q, (hk _ (by omega)).trans h.r, by simpa [World.setCell] using h.s⟩
theorem UmW.set1 {w W : World} {m c x y : Value} {pg n : Int} (h : UmW w W m c pg n x y) (u : Value) : UmW w (W.setCell ⟨w.heap.size, 1, none⟩ u) m u pg n x y :=
  have hk : ∀ k, k ≠ w.heap.size → (W.setCell ⟨w.heap.size, 1, none⟩ u).heap[k]? = W.heap[k]? := fun k hk => Below.heap_setCell W _ u k hk
  ⟨h.bel.setCell (Nat.le_refl _) _, blk_put h.h 1 u rfl, (hk _ (by omega)).trans h.p, (hk _ (by omega)).trans h.q, (hk _ (by omega)).trans h.r, by simpa [World.setCell] using h.s⟩
theorem UmW.setR {w W : World} {m c x y : Value} {pg n : Int} (h : UmW w W m c pg n x y) (u v : Value) : UmW w ((W.setCell ⟨w.heap.size + 1 + 1 + 1, 0, none⟩ u).setCell ⟨w.heap.size + 1 + 1 + 1, 1, none⟩ v) m c pg n u v :=
  have hk : ∀ k, k ≠ w.heap.size + 1 + 1 + 1 → ((W.setCell ⟨w.heap.size + 1 + 1 + 1, 0, none⟩ u).setCell ⟨w.heap.size + 1 + 1 + 1, 1, none⟩ v).heap[k]? = W.heap[k]? := fun k hk => (Below.heap_setCell _ _ v k hk).trans (Below.heap_setCell W _ u k hk)
  ⟨(h.bel.setCell (by show w.heap.size ≤ w.heap.size + 1 + 1 + 1; omega) _).setCell (by show w.heap.size ≤ w.heap.size + 1 + 1 + 1; omega) _, (hk _ (by omega)).trans h.h, (hk _ (by omega)).trans h.p, (hk _ (by omega)).trans h.q, blk_put (blk_put h.r 0 u rfl) 1 v rfl, by simpa [World.setCell] using h.s⟩
theorem UmW.below {w W W' : World} {m c x y : Value} {pg n : Int} (h : UmW w W m c pg n x y) (hb : Below W.heap.size W W') : UmW w W' m c pg n x y := h.step (hb.mono h.s)
set_option maxHeartbeats 4000000 in
theorem cl_delf_nil.calls (pf : Nat) (cp : Array Value) (eg : ∀ args w, (callFunc pf args).run Try.prog w = .ok (.enter pf args) w) (w : World) :
    Calls Try.prog 37 #[.slice none 0 0, .func (.func pf) #[] cp] w fun e w' => e = .returned (.slice none 0 0) ∧ Below w.heap.size w w' := by
  have IX : Hid (Calls Try.prog 64 #[.slice none 0 0, .func (.func pf) #[] cp] w fun e w' => e = .returned (.int .i64 (-1)) ∧ Below w.heap.size w w') := by
    refine Lib.hid ?_
    go_enter Try.func64, Try.ntmps64
    go_wp2
    go_loopw [8] (fun t wr => t = .int .i64 0 ∧ wr = w) (fun _ _ => 0)
    case atStart => exact ⟨rfl, rfl⟩
    case round =>
      obtain ⟨rfl, rfl⟩ := hrel
      go_wp2
      go_ret
      exact ⟨rfl, Below.refl _ _⟩
  go_enter Try.func37, Try.ntmps37
  go_wp2_with (go_at_call 64; (with_reducible refine IX.out.mono ?_); rintro e w1 ⟨rfl, hb⟩)
  go_ret
  exact ⟨rfl, hb⟩
theorem cl_delfR.calls (p : S55 → Bool) (pf : Nat) (cp : Array Value) (eg : ∀ args w, (callFunc pf args).run Try.prog w = .ok (.enter pf args) w) (B : Nat) (ok : Nat → Prop) (v : Value) (l : List S55) (w : World) (hR : Kd.R k55 55 w B ok v l) (hB : B ≤ w.heap.size) (hl : l.length ≤ 1000000)
    (HP : ∀ (x : S55) (W : World), (∀ k, k < B → W.heap[k]? = w.heap[k]?) → w.heap.size ≤ W.heap.size → Calls Try.prog pf (#[.agg #[.int .u64 x.f0, .int .u64 x.f1]] ++ cp) W fun e w' => e = .returned (.bool (p x)) ∧ Below W.heap.size W w') :
    Calls Try.prog 37 #[v, .func (.func pf) #[] cp] w fun ex w' => ∃ v', ex = .returned v' ∧ Kd.R k55 55 w' B (fun _ => True) v' (l.filter (fun x => !p x)) ∧ Below B w w' := by
  rcases cl_own hR with ⟨rfl, rfl⟩ | ⟨g, cap, rfl, hg, ho⟩
  · refine (cl_delf_nil.calls pf cp eg w).mono ?_
    rintro e w' ⟨rfl, hb⟩
    exact ⟨_, rfl, Kd.R_nil _ _ _ _ _, hb.mono hB⟩
  · refine (cl_delf.calls p pf cp eg g cap l w ho hl (fun x W hW => HP x W (fun k hk => hW.block k (by omega) (fun e => by injection e with e; omega)) hW.size)).mono ?_
    rintro e w' ⟨rfl, h1, h2⟩
    exact ⟨_, rfl, cl_R h1 hg, below_of_grown (Below.refl _ _) h2 hg hB⟩
set_option maxHeartbeats 4000000 in
theorem mp_map.calls (x : S53) (pa pn : Nat) (pg n : Int) (w : World) (h1 : w.heap[pa]? = some (.cells #[.int .u64 pg] 26 (0, 0))) (h2 : w.heap[pn]? = some (.cells #[.int .u64 n] 26 (0, 0))) :
    Calls Try.prog 40 #[.agg #[.int .u64 x.f0, .int .i64 x.f1], .pointer (some ⟨pa, 0, none⟩), .pointer (some ⟨pn, 0, none⟩)] w fun e w' => e = .returned (.bool (withB (x.f0) pg n)) ∧ Below w.heap.size w w' := by
  have WI := Lib.hid (fun w => host_within.calls _ _ _ _ w (withB_some (x.f0) pg n))
  have B0 : Below w.heap.size w (w.alloc (.cells #[.int .u64 x.f0, .int .i64 x.f1] 53)) := (Below.refl _ w).alloc (Nat.le_refl _) _
  have c1 := (B0.cell (p := ⟨pa, 0, none⟩) (sblk_lt h1)).trans ((sblk_cell h1 0).trans rfl)
  have c2 := (B0.cell (p := ⟨pn, 0, none⟩) (sblk_lt h2)).trans ((sblk_cell h2 0).trans rfl)
  have TB := Lib.hid B0
  have hu := Try.underlying53
  clear h1 h2 B0
  go_enter Try.func40, Try.ntmps40
  go_wp2_with (go_at_call 36; (with_reducible refine (WI.out _).mono ?_); rintro e w1 ⟨rfl, ⟨nd, rfl⟩⟩)
  go_ret
  exact ⟨rfl, pw_below_drewN TB.out nd⟩
theorem view_old {α : Type} {d : Kd α} {e : Nat} {w w' : World} {ok ok' : Nat → Prop} {v : Value} {l : List α} (h : Kd.V d e w w.heap.size ok v l) (hb : Below w.heap.size w w') (hok : ∀ k, ok k → ok' k) : Kd.V d e w' w.heap.size ok' v l := Kd.V_mono (Kd.V_below h hb) hok
theorem fresh_of {α : Type} {d : Kd α} {e B base : Nat} {w : World} {ok : Nat → Prop} {v : Value} {l : List α} (h : Kd.R d e w B ok v l) : Kd.V d e w base (fun k => B ≤ k ∧ k < w.heap.size) v l :=
  Kd.V_mono (Kd.R_V (Kd.R_bound h)) (fun k hk => ⟨hk.2.1, hk.2.2.1⟩)
theorem fresh_step {α : Type} {d : Kd α} {e B N base : Nat} {w w' : World} {v : Value} {l : List α} (h : Kd.V d e w base (fun k => B ≤ k ∧ k < N) v l) (hm : ∀ k, B ≤ k → k < N → w'.heap[k]? = w.heap[k]?) : Kd.V d e w' base (fun k => B ≤ k ∧ k < N) v l :=
  Kd.V_step h (fun k hk _ => hm k hk.1 hk.2)
theorem set_far {w : World} {g j k : Nat} {v : Value} (h : k ≠ g) : (w.setCell ⟨g, j, none⟩ v).heap[k]? = w.heap[k]? := Below.heap_setCell w _ v k h
-- HAND fn=ferry/host.Unmap ; rounds=0 ; making=1 ; laid=0 ; share=0_0,0_1 ; views=0,1
end Go.Proofs.Ytlmmipdgedfboaa.F
end
