import Derived.Below
import Derived.Deep.Draws
import Derived.Deep.AppendLies
import Derived.Maps.AppendAt
import Derived.OwnWalk
import Derived.Laws.BytesArg
import Derived.Laws.MakeOwn
import Derived.Laws.OwnMore
import Derived.Deep.OwnRows
import Derived.Tactics
import Derived.Lib.ConvBytes
import Derived.Laws.Slices
import Derived.WalkKit
import Derived.KernelRfl
import Derived.RowKit3
import Derived.Deep.LoopGhost
import Derived.Deep.QuietTactic
import Derived.BigQuiet
import Derived.WideLaws
import Derived.Deep.DeepCutAuto
import Derived.Deep.CutBlock
import Derived.Deep.RegionHeld3
import Derived.Laws.Rows
import Derived.Lib.AppendStr
import Derived.ArgAppend
import Derived.Laws.IdiomCopy
import Derived.RowKit
import Derived.OrdersHeld
import Derived.Laws.BitsLemmas
import Derived.Laws.StructEq
import Derived.OwnWalkIn
import Derived.WalkSmall
import Derived.Laws.ResultCell
import Derived.RangeFuncRecord
import Derived.ProofKit
import Derived.Lib.Hide
import Derived.Test.YtnddjndgfaefaaaDoorVZF0
section
namespace Go.Proofs.YtnddjndgfaefaaaDoor.F
open Go.RowKit Go.Proofs.YtnddjndgfaefaaaDoorW.PrintWords Go.Proofs.YtnddjndgfaefaaaDoorW.PrintLast Go.Proofs.YtnddjndgfaefaaaDoorW.PrintMore
set_option linter.unusedVariables false
set_option linter.unusedSimpArgs false
theorem sblk_cell {W : World} {b j : Nat} {cs : Array Value} {t : TypeId} {fr : Nat × Nat} {v : Value} (h : W.heap[b]? = some (.cells cs t fr)) (hv : cs[j]? = some v) : W.cell? ⟨b, j, none⟩ = some v := by
  unfold World.cell?
  rw [show W.heap[(Addr.mk b j none).block]? = _ from h]
  simpa using hv
theorem sblk_free {W : World} {b j : Nat} {cs : Array Value} {t : TypeId} (h : W.heap[b]? = some (.cells cs t (0, 0))) : W.frozen? ⟨b, j, none⟩ = false := by
  unfold World.frozen?
  rw [show W.heap[(Addr.mk b j none).block]? = _ from h]
  simp
theorem row_back (w w1 : World) (hb : Below (w.alloc (.cells #[.int .u32 0, .int .u32 0, .int .u32 0, .string ⟨#[]⟩] 60)).heap.size (w.alloc (.cells #[.int .u32 0, .int .u32 0, .int .u32 0, .string ⟨#[]⟩] 60)) w1) :
    w1.heap[w.heap.size]? = some (.cells #[.int .u32 0, .int .u32 0, .int .u32 0, .string ⟨#[]⟩] 60 (0, 0)) ∧ Below w.heap.size w w1 := by
  have s1 : (w.alloc (.cells #[.int .u32 0, .int .u32 0, .int .u32 0, .string ⟨#[]⟩] 60)).heap.size = w.heap.size + 1 := World.size_alloc _ _
  exact ⟨(hb.block _ (by rw [s1]; omega)).trans (World.alloc_heap_new w _), ((Below.refl _ w).alloc (Nat.le_refl _) _).trans (hb.mono (by rw [s1]; omega))⟩
theorem row_end {fn : Func} (hres : fn.results = #[.cell 2 60]) (tmps : Array Value) (w w1 : World) (hb : Below w.heap.size w w1) (b : Nat) (hbl : b = w1.heap.size) (hpt : tmps.getD 2 undef = .pointer (some ⟨b, 0, none⟩)) (x0 x1 x2 : Int) (s : ByteArray) :
    bodyPost Tryd.prog fn (fun e w' => e = .returned (.agg #[.int .u32 x0, .int .u32 x1, .int .u32 x2, .string s]) ∧ Below w.heap.size w w') Exit.ret { tmps := tmps, defers := [] } (w1.alloc (.cells #[.int .u32 x0, .int .u32 x1, .int .u32 x2, .string s] 60)) := by
  subst hbl
  refine bodyPost_ret (results_cell_row hres _ _ w1.heap.size 60 #[.int .u32 x0, .int .u32 x1, .int .u32 x2, .string s] (0, 0) _ hpt ?_ Tryd.underlying60 rfl (by kernel_rfl)) rfl ?_
  · exact World.alloc_heap_new w1 _
  · exact ⟨rfl, hb.alloc hb.size _⟩
theorem inj4 {a b c a' b' c' : Int} {s s' : ByteArray} (h : some (a, b, c, s) = some (a', b', c', s')) : a = a' ∧ b = b' ∧ c = c' ∧ s = s' := by
  simp only [Option.some.injEq, Prod.mk.injEq] at h
  exact h
-- HAND fn=ferry/ferryref07.memory ; rounds=0 ; making=1 ; laid=0
def ferryref07_memory.f (a0 : ByteArray) : Option (Int × Int × Int × ByteArray) :=
  if a0.toList = [114, 111, 116, 114] then some (0, 2, 0, (⟨#[100, 116, 114]⟩ : ByteArray)) else
  if a0.toList = [114, 111, 116, 114, 118] then some (0, 6, 0, (⟨#[100, 116, 118]⟩ : ByteArray)) else
  if a0.toList = [108, 98] then some (32, 0, 0, (⟨#[116, 109]⟩ : ByteArray)) else
  if a0.toList = [108, 104] then some (33, 0, 0, (⟨#[116, 109]⟩ : ByteArray)) else
  if a0.toList = [108, 119, 108] then some (34, 0, 0, (⟨#[116, 109]⟩ : ByteArray)) else
  if a0.toList = [108, 119] then some (35, 0, 0, (⟨#[116, 109]⟩ : ByteArray)) else
  if a0.toList = [108, 98, 117] then some (36, 0, 0, (⟨#[116, 109]⟩ : ByteArray)) else
  if a0.toList = [108, 104, 117] then some (37, 0, 0, (⟨#[116, 109]⟩ : ByteArray)) else
  if a0.toList = [108, 119, 114] then some (38, 0, 0, (⟨#[116, 109]⟩ : ByteArray)) else
  if a0.toList = [115, 98] then some (40, 0, 0, (⟨#[116, 109]⟩ : ByteArray)) else
  if a0.toList = [115, 104] then some (41, 0, 0, (⟨#[116, 109]⟩ : ByteArray)) else
  if a0.toList = [115, 119, 108] then some (42, 0, 0, (⟨#[116, 109]⟩ : ByteArray)) else
  if a0.toList = [115, 119] then some (43, 0, 0, (⟨#[116, 109]⟩ : ByteArray)) else
  if a0.toList = [115, 119, 114] then some (46, 0, 0, (⟨#[116, 109]⟩ : ByteArray)) else
  if a0.toList = [108, 108] then some (48, 0, 0, (⟨#[116, 109]⟩ : ByteArray)) else
  if a0.toList = [115, 99] then some (56, 0, 0, (⟨#[116, 109]⟩ : ByteArray)) else
  some (0, 0, 0, (⟨#[]⟩ : ByteArray))
set_option maxHeartbeats 8000000 in
set_option maxRecDepth 100000 in
theorem ferryref07_memory.calls (a0 : ByteArray) (r1 : Int) (r2 : Int) (r3 : Int) (r4 : ByteArray) (w : World) (h : ferryref07_memory.f a0 = some (r1, r2, r3, r4)) :
    Calls Tryd.prog 73 #[.string a0] w fun e w' => e = .returned (.agg #[.int .u32 r1, .int .u32 r2, .int .u32 r3, .string r4]) ∧ Below w.heap.size w w' := by
  unfold ferryref07_memory.f at h
  by_cases g : a0.toList = [114, 111, 116, 114]
  · rw [if_pos g] at h
    have e0 : (a0.toList == [114, 111, 116, 114]) = true := beq_iff_eq.2 g
    obtain ⟨rfl, rfl, rfl, rfl⟩ := inj4 h
    clear g h
    go_enter Tryd.func73, Tryd.ntmps73
    go_wp2
    exact row_end rfl _ w w (Below.refl _ w) _ rfl rfl _ _ _ _
  rw [if_neg g] at h
  have e0 : (a0.toList == [114, 111, 116, 114]) = false := beq_eq_false_iff_ne.2 g
  clear g
  by_cases g : a0.toList = [114, 111, 116, 114, 118]
  · rw [if_pos g] at h
    have e1 : (a0.toList == [114, 111, 116, 114, 118]) = true := beq_iff_eq.2 g
    obtain ⟨rfl, rfl, rfl, rfl⟩ := inj4 h
    clear g h
    go_enter Tryd.func73, Tryd.ntmps73
    go_wp2
    exact row_end rfl _ w w (Below.refl _ w) _ rfl rfl _ _ _ _
  rw [if_neg g] at h
  have e1 : (a0.toList == [114, 111, 116, 114, 118]) = false := beq_eq_false_iff_ne.2 g
  clear g
  by_cases g : a0.toList = [108, 98]
  · rw [if_pos g] at h
    have e2 : (a0.toList == [108, 98]) = true := beq_iff_eq.2 g
    obtain ⟨rfl, rfl, rfl, rfl⟩ := inj4 h
    clear g h
    go_enter Tryd.func73, Tryd.ntmps73
    go_wp2
    exact row_end rfl _ w w (Below.refl _ w) _ rfl rfl _ _ _ _
  rw [if_neg g] at h
  have e2 : (a0.toList == [108, 98]) = false := beq_eq_false_iff_ne.2 g
  clear g
  by_cases g : a0.toList = [108, 104]
  · rw [if_pos g] at h
    have e3 : (a0.toList == [108, 104]) = true := beq_iff_eq.2 g
    obtain ⟨rfl, rfl, rfl, rfl⟩ := inj4 h
    clear g h
    go_enter Tryd.func73, Tryd.ntmps73
    go_wp2
    exact row_end rfl _ w w (Below.refl _ w) _ rfl rfl _ _ _ _
  rw [if_neg g] at h
  have e3 : (a0.toList == [108, 104]) = false := beq_eq_false_iff_ne.2 g
  clear g
  by_cases g : a0.toList = [108, 119, 108]
  · rw [if_pos g] at h
    have e4 : (a0.toList == [108, 119, 108]) = true := beq_iff_eq.2 g
    obtain ⟨rfl, rfl, rfl, rfl⟩ := inj4 h
    clear g h
    go_enter Tryd.func73, Tryd.ntmps73
    go_wp2
    exact row_end rfl _ w w (Below.refl _ w) _ rfl rfl _ _ _ _
  rw [if_neg g] at h
  have e4 : (a0.toList == [108, 119, 108]) = false := beq_eq_false_iff_ne.2 g
  clear g
  by_cases g : a0.toList = [108, 119]
  · rw [if_pos g] at h
    have e5 : (a0.toList == [108, 119]) = true := beq_iff_eq.2 g
    obtain ⟨rfl, rfl, rfl, rfl⟩ := inj4 h
    clear g h
    go_enter Tryd.func73, Tryd.ntmps73
    go_wp2
    exact row_end rfl _ w w (Below.refl _ w) _ rfl rfl _ _ _ _
  rw [if_neg g] at h
  have e5 : (a0.toList == [108, 119]) = false := beq_eq_false_iff_ne.2 g
  clear g
  by_cases g : a0.toList = [108, 98, 117]
  · rw [if_pos g] at h
    have e6 : (a0.toList == [108, 98, 117]) = true := beq_iff_eq.2 g
    obtain ⟨rfl, rfl, rfl, rfl⟩ := inj4 h
    clear g h
    go_enter Tryd.func73, Tryd.ntmps73
    go_wp2
    exact row_end rfl _ w w (Below.refl _ w) _ rfl rfl _ _ _ _
  rw [if_neg g] at h
  have e6 : (a0.toList == [108, 98, 117]) = false := beq_eq_false_iff_ne.2 g
  clear g
  by_cases g : a0.toList = [108, 104, 117]
  · rw [if_pos g] at h
    have e7 : (a0.toList == [108, 104, 117]) = true := beq_iff_eq.2 g
    obtain ⟨rfl, rfl, rfl, rfl⟩ := inj4 h
    clear g h
    go_enter Tryd.func73, Tryd.ntmps73
    go_wp2
    exact row_end rfl _ w w (Below.refl _ w) _ rfl rfl _ _ _ _
  rw [if_neg g] at h
  have e7 : (a0.toList == [108, 104, 117]) = false := beq_eq_false_iff_ne.2 g
  clear g
  by_cases g : a0.toList = [108, 119, 114]
  · rw [if_pos g] at h
    have e8 : (a0.toList == [108, 119, 114]) = true := beq_iff_eq.2 g
    obtain ⟨rfl, rfl, rfl, rfl⟩ := inj4 h
    clear g h
    go_enter Tryd.func73, Tryd.ntmps73
    go_wp2
    exact row_end rfl _ w w (Below.refl _ w) _ rfl rfl _ _ _ _
  rw [if_neg g] at h
  have e8 : (a0.toList == [108, 119, 114]) = false := beq_eq_false_iff_ne.2 g
  clear g
  by_cases g : a0.toList = [115, 98]
  · rw [if_pos g] at h
    have e9 : (a0.toList == [115, 98]) = true := beq_iff_eq.2 g
    obtain ⟨rfl, rfl, rfl, rfl⟩ := inj4 h
    clear g h
    go_enter Tryd.func73, Tryd.ntmps73
    go_wp2
    exact row_end rfl _ w w (Below.refl _ w) _ rfl rfl _ _ _ _
  rw [if_neg g] at h
  have e9 : (a0.toList == [115, 98]) = false := beq_eq_false_iff_ne.2 g
  clear g
  by_cases g : a0.toList = [115, 104]
  · rw [if_pos g] at h
    have e10 : (a0.toList == [115, 104]) = true := beq_iff_eq.2 g
    obtain ⟨rfl, rfl, rfl, rfl⟩ := inj4 h
    clear g h
    go_enter Tryd.func73, Tryd.ntmps73
    go_wp2
    exact row_end rfl _ w w (Below.refl _ w) _ rfl rfl _ _ _ _
  rw [if_neg g] at h
  have e10 : (a0.toList == [115, 104]) = false := beq_eq_false_iff_ne.2 g
  clear g
  by_cases g : a0.toList = [115, 119, 108]
  · rw [if_pos g] at h
    have e11 : (a0.toList == [115, 119, 108]) = true := beq_iff_eq.2 g
    obtain ⟨rfl, rfl, rfl, rfl⟩ := inj4 h
    clear g h
    go_enter Tryd.func73, Tryd.ntmps73
    go_wp2
    exact row_end rfl _ w w (Below.refl _ w) _ rfl rfl _ _ _ _
  rw [if_neg g] at h
  have e11 : (a0.toList == [115, 119, 108]) = false := beq_eq_false_iff_ne.2 g
  clear g
  by_cases g : a0.toList = [115, 119]
  · rw [if_pos g] at h
    have e12 : (a0.toList == [115, 119]) = true := beq_iff_eq.2 g
    obtain ⟨rfl, rfl, rfl, rfl⟩ := inj4 h
    clear g h
    go_enter Tryd.func73, Tryd.ntmps73
    go_wp2
    exact row_end rfl _ w w (Below.refl _ w) _ rfl rfl _ _ _ _
  rw [if_neg g] at h
  have e12 : (a0.toList == [115, 119]) = false := beq_eq_false_iff_ne.2 g
  clear g
  by_cases g : a0.toList = [115, 119, 114]
  · rw [if_pos g] at h
    have e13 : (a0.toList == [115, 119, 114]) = true := beq_iff_eq.2 g
    obtain ⟨rfl, rfl, rfl, rfl⟩ := inj4 h
    clear g h
    go_enter Tryd.func73, Tryd.ntmps73
    go_wp2
    exact row_end rfl _ w w (Below.refl _ w) _ rfl rfl _ _ _ _
  rw [if_neg g] at h
  have e13 : (a0.toList == [115, 119, 114]) = false := beq_eq_false_iff_ne.2 g
  clear g
  by_cases g : a0.toList = [108, 108]
  · rw [if_pos g] at h
    have e14 : (a0.toList == [108, 108]) = true := beq_iff_eq.2 g
    obtain ⟨rfl, rfl, rfl, rfl⟩ := inj4 h
    clear g h
    go_enter Tryd.func73, Tryd.ntmps73
    go_wp2
    exact row_end rfl _ w w (Below.refl _ w) _ rfl rfl _ _ _ _
  rw [if_neg g] at h
  have e14 : (a0.toList == [108, 108]) = false := beq_eq_false_iff_ne.2 g
  clear g
  by_cases g : a0.toList = [115, 99]
  · rw [if_pos g] at h
    have e15 : (a0.toList == [115, 99]) = true := beq_iff_eq.2 g
    obtain ⟨rfl, rfl, rfl, rfl⟩ := inj4 h
    clear g h
    go_enter Tryd.func73, Tryd.ntmps73
    go_wp2
    exact row_end rfl _ w w (Below.refl _ w) _ rfl rfl _ _ _ _
  rw [if_neg g] at h
  have e15 : (a0.toList == [115, 99]) = false := beq_eq_false_iff_ne.2 g
  clear g
  obtain ⟨rfl, rfl, rfl, rfl⟩ := inj4 h
  clear h
  go_enter Tryd.func73, Tryd.ntmps73
  go_wp2
  exact row_end rfl _ w w (Below.refl _ w) _ rfl rfl _ _ _ _
-- HAND fn=ferry/ferryref07.other ; rounds=0 ; making=1 ; laid=0
def ferryref07_other.f (a0 : ByteArray) : Option (Int × Int × Int × ByteArray) :=
  if a0.toList = [98, 108, 116, 122] then some (1, 0, 0, (⟨#[115, 111]⟩ : ByteArray)) else
  if a0.toList = [98, 103, 101, 122] then some (1, 1, 0, (⟨#[115, 111]⟩ : ByteArray)) else
  if a0.toList = [98, 108, 116, 122, 97, 108] then some (1, 16, 0, (⟨#[115, 111]⟩ : ByteArray)) else
  if a0.toList = [98, 103, 101, 122, 97, 108] then some (1, 17, 0, (⟨#[115, 111]⟩ : ByteArray)) else
  if a0.toList = [106] then some (2, 0, 0, (⟨#[106]⟩ : ByteArray)) else
  if a0.toList = [106, 97, 108] then some (3, 0, 0, (⟨#[106]⟩ : ByteArray)) else
  if a0.toList = [98, 101, 113] then some (4, 0, 0, (⟨#[115, 116, 111]⟩ : ByteArray)) else
  if a0.toList = [98, 110, 101] then some (5, 0, 0, (⟨#[115, 116, 111]⟩ : ByteArray)) else
  if a0.toList = [98, 108, 101, 122] then some (6, 0, 0, (⟨#[115, 111]⟩ : ByteArray)) else
  if a0.toList = [98, 103, 116, 122] then some (7, 0, 0, (⟨#[115, 111]⟩ : ByteArray)) else
  if a0.toList = [97, 100, 100, 105] then some (8, 0, 0, (⟨#[116, 115, 105]⟩ : ByteArray)) else
  if a0.toList = [97, 100, 100, 105, 117] then some (9, 0, 0, (⟨#[116, 115, 105]⟩ : ByteArray)) else
  if a0.toList = [115, 108, 116, 105] then some (10, 0, 0, (⟨#[116, 115, 105]⟩ : ByteArray)) else
  if a0.toList = [115, 108, 116, 105, 117] then some (11, 0, 0, (⟨#[116, 115, 105]⟩ : ByteArray)) else
  if a0.toList = [97, 110, 100, 105] then some (12, 0, 0, (⟨#[116, 115, 105]⟩ : ByteArray)) else
  if a0.toList = [111, 114, 105] then some (13, 0, 0, (⟨#[116, 115, 105]⟩ : ByteArray)) else
  if a0.toList = [120, 111, 114, 105] then some (14, 0, 0, (⟨#[116, 115, 105]⟩ : ByteArray)) else
  if a0.toList = [108, 117, 105] then some (15, 0, 0, (⟨#[116, 105]⟩ : ByteArray)) else
  if a0.toList = [109, 97, 100, 100] then some (28, 0, 0, (⟨#[115, 116]⟩ : ByteArray)) else
  if a0.toList = [109, 97, 100, 100, 117] then some (28, 1, 0, (⟨#[115, 116]⟩ : ByteArray)) else
  if a0.toList = [109, 117, 108] then some (28, 2, 0, (⟨#[100, 115, 116]⟩ : ByteArray)) else
  if a0.toList = [109, 115, 117, 98] then some (28, 4, 0, (⟨#[115, 116]⟩ : ByteArray)) else
  if a0.toList = [109, 115, 117, 98, 117] then some (28, 5, 0, (⟨#[115, 116]⟩ : ByteArray)) else
  if a0.toList = [99, 108, 122] then some (28, 32, 0, (⟨#[100, 115, 100]⟩ : ByteArray)) else
  if a0.toList = [99, 108, 111] then some (28, 33, 0, (⟨#[100, 115, 100]⟩ : ByteArray)) else
  if a0.toList = [101, 120, 116] then some (31, 0, 0, (⟨#[116, 115, 120]⟩ : ByteArray)) else
  if a0.toList = [105, 110, 115] then some (31, 4, 0, (⟨#[116, 115, 120]⟩ : ByteArray)) else
  if a0.toList = [119, 115, 98, 104] then some (31, 32, 2, (⟨#[100, 116]⟩ : ByteArray)) else
  if a0.toList = [115, 101, 98] then some (31, 32, 16, (⟨#[100, 116]⟩ : ByteArray)) else
  if a0.toList = [115, 101, 104] then some (31, 32, 24, (⟨#[100, 116]⟩ : ByteArray)) else
  if a0.toList = [114, 100, 104, 119, 114] then some (31, 59, 0, (⟨#[116, 100]⟩ : ByteArray)) else
  (ferryref07_memory.f a0).bind fun q => some (q.1, q.2.1, q.2.2.1, q.2.2.2)
set_option maxHeartbeats 8000000 in
set_option maxRecDepth 100000 in
theorem ferryref07_other.calls (a0 : ByteArray) (r1 : Int) (r2 : Int) (r3 : Int) (r4 : ByteArray) (w : World) (h : ferryref07_other.f a0 = some (r1, r2, r3, r4)) :
    Calls Tryd.prog 61 #[.string a0] w fun e w' => e = .returned (.agg #[.int .u32 r1, .int .u32 r2, .int .u32 r3, .string r4]) ∧ Below w.heap.size w w' := by
  unfold ferryref07_other.f at h
  by_cases g : a0.toList = [98, 108, 116, 122]
  · rw [if_pos g] at h
    have e0 : (a0.toList == [98, 108, 116, 122]) = true := beq_iff_eq.2 g
    obtain ⟨rfl, rfl, rfl, rfl⟩ := inj4 h
    clear g h
    go_enter Tryd.func61, Tryd.ntmps61
    go_wp2
    exact row_end rfl _ w w (Below.refl _ w) _ rfl rfl _ _ _ _
  rw [if_neg g] at h
  have e0 : (a0.toList == [98, 108, 116, 122]) = false := beq_eq_false_iff_ne.2 g
  clear g
  by_cases g : a0.toList = [98, 103, 101, 122]
  · rw [if_pos g] at h
    have e1 : (a0.toList == [98, 103, 101, 122]) = true := beq_iff_eq.2 g
    obtain ⟨rfl, rfl, rfl, rfl⟩ := inj4 h
    clear g h
    go_enter Tryd.func61, Tryd.ntmps61
    go_wp2
    exact row_end rfl _ w w (Below.refl _ w) _ rfl rfl _ _ _ _
  rw [if_neg g] at h
  have e1 : (a0.toList == [98, 103, 101, 122]) = false := beq_eq_false_iff_ne.2 g
  clear g
  by_cases g : a0.toList = [98, 108, 116, 122, 97, 108]
  · rw [if_pos g] at h
    have e2 : (a0.toList == [98, 108, 116, 122, 97, 108]) = true := beq_iff_eq.2 g
    obtain ⟨rfl, rfl, rfl, rfl⟩ := inj4 h
    clear g h
    go_enter Tryd.func61, Tryd.ntmps61
    go_wp2
    exact row_end rfl _ w w (Below.refl _ w) _ rfl rfl _ _ _ _
  rw [if_neg g] at h
  have e2 : (a0.toList == [98, 108, 116, 122, 97, 108]) = false := beq_eq_false_iff_ne.2 g
  clear g
  by_cases g : a0.toList = [98, 103, 101, 122, 97, 108]
  · rw [if_pos g] at h
    have e3 : (a0.toList == [98, 103, 101, 122, 97, 108]) = true := beq_iff_eq.2 g
    obtain ⟨rfl, rfl, rfl, rfl⟩ := inj4 h
    clear g h
    go_enter Tryd.func61, Tryd.ntmps61
    go_wp2
    exact row_end rfl _ w w (Below.refl _ w) _ rfl rfl _ _ _ _
  rw [if_neg g] at h
  have e3 : (a0.toList == [98, 103, 101, 122, 97, 108]) = false := beq_eq_false_iff_ne.2 g
  clear g
  by_cases g : a0.toList = [106]
  · rw [if_pos g] at h
    have e4 : (a0.toList == [106]) = true := beq_iff_eq.2 g
    obtain ⟨rfl, rfl, rfl, rfl⟩ := inj4 h
    clear g h
    go_enter Tryd.func61, Tryd.ntmps61
    go_wp2
    exact row_end rfl _ w w (Below.refl _ w) _ rfl rfl _ _ _ _
  rw [if_neg g] at h
  have e4 : (a0.toList == [106]) = false := beq_eq_false_iff_ne.2 g
  clear g
  by_cases g : a0.toList = [106, 97, 108]
  · rw [if_pos g] at h
    have e5 : (a0.toList == [106, 97, 108]) = true := beq_iff_eq.2 g
    obtain ⟨rfl, rfl, rfl, rfl⟩ := inj4 h
    clear g h
    go_enter Tryd.func61, Tryd.ntmps61
    go_wp2
    exact row_end rfl _ w w (Below.refl _ w) _ rfl rfl _ _ _ _
  rw [if_neg g] at h
  have e5 : (a0.toList == [106, 97, 108]) = false := beq_eq_false_iff_ne.2 g
  clear g
  by_cases g : a0.toList = [98, 101, 113]
  · rw [if_pos g] at h
    have e6 : (a0.toList == [98, 101, 113]) = true := beq_iff_eq.2 g
    obtain ⟨rfl, rfl, rfl, rfl⟩ := inj4 h
    clear g h
    go_enter Tryd.func61, Tryd.ntmps61
    go_wp2
    exact row_end rfl _ w w (Below.refl _ w) _ rfl rfl _ _ _ _
  rw [if_neg g] at h
  have e6 : (a0.toList == [98, 101, 113]) = false := beq_eq_false_iff_ne.2 g
  clear g
  by_cases g : a0.toList = [98, 110, 101]
  · rw [if_pos g] at h
    have e7 : (a0.toList == [98, 110, 101]) = true := beq_iff_eq.2 g
    obtain ⟨rfl, rfl, rfl, rfl⟩ := inj4 h
    clear g h
    go_enter Tryd.func61, Tryd.ntmps61
    go_wp2
    exact row_end rfl _ w w (Below.refl _ w) _ rfl rfl _ _ _ _
  rw [if_neg g] at h
  have e7 : (a0.toList == [98, 110, 101]) = false := beq_eq_false_iff_ne.2 g
  clear g
  by_cases g : a0.toList = [98, 108, 101, 122]
  · rw [if_pos g] at h
    have e8 : (a0.toList == [98, 108, 101, 122]) = true := beq_iff_eq.2 g
    obtain ⟨rfl, rfl, rfl, rfl⟩ := inj4 h
    clear g h
    go_enter Tryd.func61, Tryd.ntmps61
    go_wp2
    exact row_end rfl _ w w (Below.refl _ w) _ rfl rfl _ _ _ _
  rw [if_neg g] at h
  have e8 : (a0.toList == [98, 108, 101, 122]) = false := beq_eq_false_iff_ne.2 g
  clear g
  by_cases g : a0.toList = [98, 103, 116, 122]
  · rw [if_pos g] at h
    have e9 : (a0.toList == [98, 103, 116, 122]) = true := beq_iff_eq.2 g
    obtain ⟨rfl, rfl, rfl, rfl⟩ := inj4 h
    clear g h
    go_enter Tryd.func61, Tryd.ntmps61
    go_wp2
    exact row_end rfl _ w w (Below.refl _ w) _ rfl rfl _ _ _ _
  rw [if_neg g] at h
  have e9 : (a0.toList == [98, 103, 116, 122]) = false := beq_eq_false_iff_ne.2 g
  clear g
  by_cases g : a0.toList = [97, 100, 100, 105]
  · rw [if_pos g] at h
    have e10 : (a0.toList == [97, 100, 100, 105]) = true := beq_iff_eq.2 g
    obtain ⟨rfl, rfl, rfl, rfl⟩ := inj4 h
    clear g h
    go_enter Tryd.func61, Tryd.ntmps61
    go_wp2
    exact row_end rfl _ w w (Below.refl _ w) _ rfl rfl _ _ _ _
  rw [if_neg g] at h
  have e10 : (a0.toList == [97, 100, 100, 105]) = false := beq_eq_false_iff_ne.2 g
  clear g
  by_cases g : a0.toList = [97, 100, 100, 105, 117]
  · rw [if_pos g] at h
    have e11 : (a0.toList == [97, 100, 100, 105, 117]) = true := beq_iff_eq.2 g
    obtain ⟨rfl, rfl, rfl, rfl⟩ := inj4 h
    clear g h
    go_enter Tryd.func61, Tryd.ntmps61
    go_wp2
    exact row_end rfl _ w w (Below.refl _ w) _ rfl rfl _ _ _ _
  rw [if_neg g] at h
  have e11 : (a0.toList == [97, 100, 100, 105, 117]) = false := beq_eq_false_iff_ne.2 g
  clear g
  by_cases g : a0.toList = [115, 108, 116, 105]
  · rw [if_pos g] at h
    have e12 : (a0.toList == [115, 108, 116, 105]) = true := beq_iff_eq.2 g
    obtain ⟨rfl, rfl, rfl, rfl⟩ := inj4 h
    clear g h
    go_enter Tryd.func61, Tryd.ntmps61
    go_wp2
    exact row_end rfl _ w w (Below.refl _ w) _ rfl rfl _ _ _ _
  rw [if_neg g] at h
  have e12 : (a0.toList == [115, 108, 116, 105]) = false := beq_eq_false_iff_ne.2 g
  clear g
  by_cases g : a0.toList = [115, 108, 116, 105, 117]
  · rw [if_pos g] at h
    have e13 : (a0.toList == [115, 108, 116, 105, 117]) = true := beq_iff_eq.2 g
    obtain ⟨rfl, rfl, rfl, rfl⟩ := inj4 h
    clear g h
    go_enter Tryd.func61, Tryd.ntmps61
    go_wp2
    exact row_end rfl _ w w (Below.refl _ w) _ rfl rfl _ _ _ _
  rw [if_neg g] at h
  have e13 : (a0.toList == [115, 108, 116, 105, 117]) = false := beq_eq_false_iff_ne.2 g
  clear g
  by_cases g : a0.toList = [97, 110, 100, 105]
  · rw [if_pos g] at h
    have e14 : (a0.toList == [97, 110, 100, 105]) = true := beq_iff_eq.2 g
    obtain ⟨rfl, rfl, rfl, rfl⟩ := inj4 h
    clear g h
    go_enter Tryd.func61, Tryd.ntmps61
    go_wp2
    exact row_end rfl _ w w (Below.refl _ w) _ rfl rfl _ _ _ _
  rw [if_neg g] at h
  have e14 : (a0.toList == [97, 110, 100, 105]) = false := beq_eq_false_iff_ne.2 g
  clear g
  by_cases g : a0.toList = [111, 114, 105]
  · rw [if_pos g] at h
    have e15 : (a0.toList == [111, 114, 105]) = true := beq_iff_eq.2 g
    obtain ⟨rfl, rfl, rfl, rfl⟩ := inj4 h
    clear g h
    go_enter Tryd.func61, Tryd.ntmps61
    go_wp2
    exact row_end rfl _ w w (Below.refl _ w) _ rfl rfl _ _ _ _
  rw [if_neg g] at h
  have e15 : (a0.toList == [111, 114, 105]) = false := beq_eq_false_iff_ne.2 g
  clear g
  by_cases g : a0.toList = [120, 111, 114, 105]
  · rw [if_pos g] at h
    have e16 : (a0.toList == [120, 111, 114, 105]) = true := beq_iff_eq.2 g
    obtain ⟨rfl, rfl, rfl, rfl⟩ := inj4 h
    clear g h
    go_enter Tryd.func61, Tryd.ntmps61
    go_wp2
    exact row_end rfl _ w w (Below.refl _ w) _ rfl rfl _ _ _ _
  rw [if_neg g] at h
  have e16 : (a0.toList == [120, 111, 114, 105]) = false := beq_eq_false_iff_ne.2 g
  clear g
  by_cases g : a0.toList = [108, 117, 105]
  · rw [if_pos g] at h
    have e17 : (a0.toList == [108, 117, 105]) = true := beq_iff_eq.2 g
    obtain ⟨rfl, rfl, rfl, rfl⟩ := inj4 h
    clear g h
    go_enter Tryd.func61, Tryd.ntmps61
    go_wp2
    exact row_end rfl _ w w (Below.refl _ w) _ rfl rfl _ _ _ _
  rw [if_neg g] at h
  have e17 : (a0.toList == [108, 117, 105]) = false := beq_eq_false_iff_ne.2 g
  clear g
  by_cases g : a0.toList = [109, 97, 100, 100]
  · rw [if_pos g] at h
    have e18 : (a0.toList == [109, 97, 100, 100]) = true := beq_iff_eq.2 g
    obtain ⟨rfl, rfl, rfl, rfl⟩ := inj4 h
    clear g h
    go_enter Tryd.func61, Tryd.ntmps61
    go_wp2
    exact row_end rfl _ w w (Below.refl _ w) _ rfl rfl _ _ _ _
  rw [if_neg g] at h
  have e18 : (a0.toList == [109, 97, 100, 100]) = false := beq_eq_false_iff_ne.2 g
  clear g
  by_cases g : a0.toList = [109, 97, 100, 100, 117]
  · rw [if_pos g] at h
    have e19 : (a0.toList == [109, 97, 100, 100, 117]) = true := beq_iff_eq.2 g
    obtain ⟨rfl, rfl, rfl, rfl⟩ := inj4 h
    clear g h
    go_enter Tryd.func61, Tryd.ntmps61
    go_wp2
    exact row_end rfl _ w w (Below.refl _ w) _ rfl rfl _ _ _ _
  rw [if_neg g] at h
  have e19 : (a0.toList == [109, 97, 100, 100, 117]) = false := beq_eq_false_iff_ne.2 g
  clear g
  by_cases g : a0.toList = [109, 117, 108]
  · rw [if_pos g] at h
    have e20 : (a0.toList == [109, 117, 108]) = true := beq_iff_eq.2 g
    obtain ⟨rfl, rfl, rfl, rfl⟩ := inj4 h
    clear g h
    go_enter Tryd.func61, Tryd.ntmps61
    go_wp2
    exact row_end rfl _ w w (Below.refl _ w) _ rfl rfl _ _ _ _
  rw [if_neg g] at h
  have e20 : (a0.toList == [109, 117, 108]) = false := beq_eq_false_iff_ne.2 g
  clear g
  by_cases g : a0.toList = [109, 115, 117, 98]
  · rw [if_pos g] at h
    have e21 : (a0.toList == [109, 115, 117, 98]) = true := beq_iff_eq.2 g
    obtain ⟨rfl, rfl, rfl, rfl⟩ := inj4 h
    clear g h
    go_enter Tryd.func61, Tryd.ntmps61
    go_wp2
    exact row_end rfl _ w w (Below.refl _ w) _ rfl rfl _ _ _ _
  rw [if_neg g] at h
  have e21 : (a0.toList == [109, 115, 117, 98]) = false := beq_eq_false_iff_ne.2 g
  clear g
  by_cases g : a0.toList = [109, 115, 117, 98, 117]
  · rw [if_pos g] at h
    have e22 : (a0.toList == [109, 115, 117, 98, 117]) = true := beq_iff_eq.2 g
    obtain ⟨rfl, rfl, rfl, rfl⟩ := inj4 h
    clear g h
    go_enter Tryd.func61, Tryd.ntmps61
    go_wp2
    exact row_end rfl _ w w (Below.refl _ w) _ rfl rfl _ _ _ _
  rw [if_neg g] at h
  have e22 : (a0.toList == [109, 115, 117, 98, 117]) = false := beq_eq_false_iff_ne.2 g
  clear g
  by_cases g : a0.toList = [99, 108, 122]
  · rw [if_pos g] at h
    have e23 : (a0.toList == [99, 108, 122]) = true := beq_iff_eq.2 g
    obtain ⟨rfl, rfl, rfl, rfl⟩ := inj4 h
    clear g h
    go_enter Tryd.func61, Tryd.ntmps61
    go_wp2
    exact row_end rfl _ w w (Below.refl _ w) _ rfl rfl _ _ _ _
  rw [if_neg g] at h
  have e23 : (a0.toList == [99, 108, 122]) = false := beq_eq_false_iff_ne.2 g
  clear g
  by_cases g : a0.toList = [99, 108, 111]
  · rw [if_pos g] at h
    have e24 : (a0.toList == [99, 108, 111]) = true := beq_iff_eq.2 g
    obtain ⟨rfl, rfl, rfl, rfl⟩ := inj4 h
    clear g h
    go_enter Tryd.func61, Tryd.ntmps61
    go_wp2
    exact row_end rfl _ w w (Below.refl _ w) _ rfl rfl _ _ _ _
  rw [if_neg g] at h
  have e24 : (a0.toList == [99, 108, 111]) = false := beq_eq_false_iff_ne.2 g
  clear g
  by_cases g : a0.toList = [101, 120, 116]
  · rw [if_pos g] at h
    have e25 : (a0.toList == [101, 120, 116]) = true := beq_iff_eq.2 g
    obtain ⟨rfl, rfl, rfl, rfl⟩ := inj4 h
    clear g h
    go_enter Tryd.func61, Tryd.ntmps61
    go_wp2
    exact row_end rfl _ w w (Below.refl _ w) _ rfl rfl _ _ _ _
  rw [if_neg g] at h
  have e25 : (a0.toList == [101, 120, 116]) = false := beq_eq_false_iff_ne.2 g
  clear g
  by_cases g : a0.toList = [105, 110, 115]
  · rw [if_pos g] at h
    have e26 : (a0.toList == [105, 110, 115]) = true := beq_iff_eq.2 g
    obtain ⟨rfl, rfl, rfl, rfl⟩ := inj4 h
    clear g h
    go_enter Tryd.func61, Tryd.ntmps61
    go_wp2
    exact row_end rfl _ w w (Below.refl _ w) _ rfl rfl _ _ _ _
  rw [if_neg g] at h
  have e26 : (a0.toList == [105, 110, 115]) = false := beq_eq_false_iff_ne.2 g
  clear g
  by_cases g : a0.toList = [119, 115, 98, 104]
  · rw [if_pos g] at h
    have e27 : (a0.toList == [119, 115, 98, 104]) = true := beq_iff_eq.2 g
    obtain ⟨rfl, rfl, rfl, rfl⟩ := inj4 h
    clear g h
    go_enter Tryd.func61, Tryd.ntmps61
    go_wp2
    exact row_end rfl _ w w (Below.refl _ w) _ rfl rfl _ _ _ _
  rw [if_neg g] at h
  have e27 : (a0.toList == [119, 115, 98, 104]) = false := beq_eq_false_iff_ne.2 g
  clear g
  by_cases g : a0.toList = [115, 101, 98]
  · rw [if_pos g] at h
    have e28 : (a0.toList == [115, 101, 98]) = true := beq_iff_eq.2 g
    obtain ⟨rfl, rfl, rfl, rfl⟩ := inj4 h
    clear g h
    go_enter Tryd.func61, Tryd.ntmps61
    go_wp2
    exact row_end rfl _ w w (Below.refl _ w) _ rfl rfl _ _ _ _
  rw [if_neg g] at h
  have e28 : (a0.toList == [115, 101, 98]) = false := beq_eq_false_iff_ne.2 g
  clear g
  by_cases g : a0.toList = [115, 101, 104]
  · rw [if_pos g] at h
    have e29 : (a0.toList == [115, 101, 104]) = true := beq_iff_eq.2 g
    obtain ⟨rfl, rfl, rfl, rfl⟩ := inj4 h
    clear g h
    go_enter Tryd.func61, Tryd.ntmps61
    go_wp2
    exact row_end rfl _ w w (Below.refl _ w) _ rfl rfl _ _ _ _
  rw [if_neg g] at h
  have e29 : (a0.toList == [115, 101, 104]) = false := beq_eq_false_iff_ne.2 g
  clear g
  by_cases g : a0.toList = [114, 100, 104, 119, 114]
  · rw [if_pos g] at h
    have e30 : (a0.toList == [114, 100, 104, 119, 114]) = true := beq_iff_eq.2 g
    obtain ⟨rfl, rfl, rfl, rfl⟩ := inj4 h
    clear g h
    go_enter Tryd.func61, Tryd.ntmps61
    go_wp2
    exact row_end rfl _ w w (Below.refl _ w) _ rfl rfl _ _ _ _
  rw [if_neg g] at h
  have e30 : (a0.toList == [114, 100, 104, 119, 114]) = false := beq_eq_false_iff_ne.2 g
  clear g
  obtain ⟨⟨y1, y2, y3, y4⟩, hq, h⟩ := Option.bind_eq_some_iff.1 h
  obtain ⟨k1, k2, k3, k4⟩ := inj4 h
  dsimp only at k1 k2 k3 k4
  subst k1 k2 k3 k4
  have NX := Lib.hid (fun w => ferryref07_memory.calls a0 y1 y2 y3 y4 w hq)
  have RB := Lib.hid (row_back w)
  clear h hq
  go_enter Tryd.func61, Tryd.ntmps61
  go_wp2_with (go_at_call 73; (with_reducible refine (NX.out _).mono ?_); rintro e w1 ⟨rfl, hb⟩; have g1 := RB.out w1 hb; have q0 := sblk_cell (j := 0) (v := .int .u32 0) g1.1 rfl; have u0 := sblk_free (j := 0) g1.1; have q1 := sblk_cell (j := 1) (v := .int .u32 0) g1.1 rfl; have u1 := sblk_free (j := 1) g1.1; have q2 := sblk_cell (j := 2) (v := .int .u32 0) g1.1 rfl; have u2 := sblk_free (j := 2) g1.1; have q3 := sblk_cell (j := 3) (v := .string ⟨#[]⟩) g1.1 rfl; have u3 := sblk_free (j := 3) g1.1; have G1 := Lib.hid g1; clear g1 hb)
  refine bodyPost_ret (results_cell_row rfl _ _ w.heap.size 60 #[.int .u32 y1, .int .u32 y2, .int .u32 y3, .string y4] (0, 0) _ rfl ?_ Tryd.underlying60 rfl (by kernel_rfl)) rfl ?_
  · refine blk_put (cs := #[.int .u32 y1, .int .u32 y2, .int .u32 y3, .string ⟨#[]⟩]) ?_ 3 _ rfl
    refine blk_put (cs := #[.int .u32 y1, .int .u32 y2, .int .u32 0, .string ⟨#[]⟩]) ?_ 2 _ rfl
    refine blk_put (cs := #[.int .u32 y1, .int .u32 0, .int .u32 0, .string ⟨#[]⟩]) ?_ 1 _ rfl
    refine blk_put (cs := #[.int .u32 0, .int .u32 0, .int .u32 0, .string ⟨#[]⟩]) ?_ 0 _ rfl
    exact G1.out.1
  · exact ⟨rfl, (Below.setCell (p := ⟨w.heap.size, 3, none⟩) (Below.setCell (p := ⟨w.heap.size, 2, none⟩) (Below.setCell (p := ⟨w.heap.size, 1, none⟩) (Below.setCell (p := ⟨w.heap.size, 0, none⟩) G1.out.2 (Nat.le_refl _) _) (Nat.le_refl _) _) (Nat.le_refl _) _) (Nat.le_refl _) _)⟩
-- HAND fn=ferry/ferryref07.special ; rounds=0 ; making=1 ; laid=0
def ferryref07_special.f (a0 : ByteArray) : Option (Int × Int × Int × ByteArray) :=
  if a0.toList = [115, 108, 108] then some (0, 0, 0, (⟨#[100, 116, 97]⟩ : ByteArray)) else
  if a0.toList = [115, 114, 108] then some (0, 2, 0, (⟨#[100, 116, 97]⟩ : ByteArray)) else
  if a0.toList = [115, 114, 97] then some (0, 3, 0, (⟨#[100, 116, 97]⟩ : ByteArray)) else
  if a0.toList = [115, 108, 108, 118] then some (0, 4, 0, (⟨#[100, 116, 115]⟩ : ByteArray)) else
  if a0.toList = [115, 114, 108, 118] then some (0, 6, 0, (⟨#[100, 116, 115]⟩ : ByteArray)) else
  if a0.toList = [115, 114, 97, 118] then some (0, 7, 0, (⟨#[100, 116, 115]⟩ : ByteArray)) else
  if a0.toList = [106, 114] then some (0, 8, 0, (⟨#[115]⟩ : ByteArray)) else
  if a0.toList = [106, 97, 108, 114] then some (0, 9, 0, (⟨#[100, 115]⟩ : ByteArray)) else
  if a0.toList = [109, 111, 118, 122] then some (0, 10, 0, (⟨#[100, 115, 116]⟩ : ByteArray)) else
  if a0.toList = [109, 111, 118, 110] then some (0, 11, 0, (⟨#[100, 115, 116]⟩ : ByteArray)) else
  if a0.toList = [115, 121, 115, 99, 97, 108, 108] then some (0, 12, 0, (⟨#[99]⟩ : ByteArray)) else
  if a0.toList = [98, 114, 101, 97, 107] then some (0, 13, 0, (⟨#[99]⟩ : ByteArray)) else
  if a0.toList = [109, 102, 104, 105] then some (0, 16, 0, (⟨#[100]⟩ : ByteArray)) else
  if a0.toList = [109, 116, 104, 105] then some (0, 17, 0, (⟨#[115]⟩ : ByteArray)) else
  if a0.toList = [109, 102, 108, 111] then some (0, 18, 0, (⟨#[100]⟩ : ByteArray)) else
  if a0.toList = [109, 116, 108, 111] then some (0, 19, 0, (⟨#[115]⟩ : ByteArray)) else
  if a0.toList = [109, 117, 108, 116] then some (0, 24, 0, (⟨#[115, 116]⟩ : ByteArray)) else
  if a0.toList = [109, 117, 108, 116, 117] then some (0, 25, 0, (⟨#[115, 116]⟩ : ByteArray)) else
  if a0.toList = [100, 105, 118] then some (0, 26, 0, (⟨#[115, 116]⟩ : ByteArray)) else
  if a0.toList = [100, 105, 118, 117] then some (0, 27, 0, (⟨#[115, 116]⟩ : ByteArray)) else
  if a0.toList = [97, 100, 100] then some (0, 32, 0, (⟨#[100, 115, 116]⟩ : ByteArray)) else
  if a0.toList = [97, 100, 100, 117] then some (0, 33, 0, (⟨#[100, 115, 116]⟩ : ByteArray)) else
  if a0.toList = [115, 117, 98] then some (0, 34, 0, (⟨#[100, 115, 116]⟩ : ByteArray)) else
  if a0.toList = [115, 117, 98, 117] then some (0, 35, 0, (⟨#[100, 115, 116]⟩ : ByteArray)) else
  if a0.toList = [97, 110, 100] then some (0, 36, 0, (⟨#[100, 115, 116]⟩ : ByteArray)) else
  if a0.toList = [111, 114] then some (0, 37, 0, (⟨#[100, 115, 116]⟩ : ByteArray)) else
  if a0.toList = [120, 111, 114] then some (0, 38, 0, (⟨#[100, 115, 116]⟩ : ByteArray)) else
  if a0.toList = [110, 111, 114] then some (0, 39, 0, (⟨#[100, 115, 116]⟩ : ByteArray)) else
  if a0.toList = [115, 108, 116] then some (0, 42, 0, (⟨#[100, 115, 116]⟩ : ByteArray)) else
  if a0.toList = [115, 108, 116, 117] then some (0, 43, 0, (⟨#[100, 115, 116]⟩ : ByteArray)) else
  if a0.toList = [116, 103, 101] then some (0, 48, 0, (⟨#[115, 116]⟩ : ByteArray)) else
  if a0.toList = [116, 103, 101, 117] then some (0, 49, 0, (⟨#[115, 116]⟩ : ByteArray)) else
  if a0.toList = [116, 108, 116] then some (0, 50, 0, (⟨#[115, 116]⟩ : ByteArray)) else
  if a0.toList = [116, 108, 116, 117] then some (0, 51, 0, (⟨#[115, 116]⟩ : ByteArray)) else
  if a0.toList = [116, 101, 113] then some (0, 52, 0, (⟨#[115, 116]⟩ : ByteArray)) else
  if a0.toList = [116, 110, 101] then some (0, 54, 0, (⟨#[115, 116]⟩ : ByteArray)) else
  (ferryref07_other.f a0).bind fun q => some (q.1, q.2.1, q.2.2.1, q.2.2.2)
set_option maxHeartbeats 8000000 in
set_option maxRecDepth 100000 in
theorem ferryref07_special.calls (a0 : ByteArray) (r1 : Int) (r2 : Int) (r3 : Int) (r4 : ByteArray) (w : World) (h : ferryref07_special.f a0 = some (r1, r2, r3, r4)) :
    Calls Tryd.prog 41 #[.string a0] w fun e w' => e = .returned (.agg #[.int .u32 r1, .int .u32 r2, .int .u32 r3, .string r4]) ∧ Below w.heap.size w w' := by
  unfold ferryref07_special.f at h
  by_cases g : a0.toList = [115, 108, 108]
  · rw [if_pos g] at h
    have e0 : (a0.toList == [115, 108, 108]) = true := beq_iff_eq.2 g
    obtain ⟨rfl, rfl, rfl, rfl⟩ := inj4 h
    clear g h
    go_enter Tryd.func41, Tryd.ntmps41
    go_wp2
    exact row_end rfl _ w w (Below.refl _ w) _ rfl rfl _ _ _ _
  rw [if_neg g] at h
  have e0 : (a0.toList == [115, 108, 108]) = false := beq_eq_false_iff_ne.2 g
  clear g
  by_cases g : a0.toList = [115, 114, 108]
  · rw [if_pos g] at h
    have e1 : (a0.toList == [115, 114, 108]) = true := beq_iff_eq.2 g
    obtain ⟨rfl, rfl, rfl, rfl⟩ := inj4 h
    clear g h
    go_enter Tryd.func41, Tryd.ntmps41
    go_wp2
    exact row_end rfl _ w w (Below.refl _ w) _ rfl rfl _ _ _ _
  rw [if_neg g] at h
  have e1 : (a0.toList == [115, 114, 108]) = false := beq_eq_false_iff_ne.2 g
  clear g
  by_cases g : a0.toList = [115, 114, 97]
  · rw [if_pos g] at h
    have e2 : (a0.toList == [115, 114, 97]) = true := beq_iff_eq.2 g
    obtain ⟨rfl, rfl, rfl, rfl⟩ := inj4 h
    clear g h
    go_enter Tryd.func41, Tryd.ntmps41
    go_wp2
    exact row_end rfl _ w w (Below.refl _ w) _ rfl rfl _ _ _ _
  rw [if_neg g] at h
  have e2 : (a0.toList == [115, 114, 97]) = false := beq_eq_false_iff_ne.2 g
  clear g
  by_cases g : a0.toList = [115, 108, 108, 118]
  · rw [if_pos g] at h
    have e3 : (a0.toList == [115, 108, 108, 118]) = true := beq_iff_eq.2 g
    obtain ⟨rfl, rfl, rfl, rfl⟩ := inj4 h
    clear g h
    go_enter Tryd.func41, Tryd.ntmps41
    go_wp2
    exact row_end rfl _ w w (Below.refl _ w) _ rfl rfl _ _ _ _
  rw [if_neg g] at h
  have e3 : (a0.toList == [115, 108, 108, 118]) = false := beq_eq_false_iff_ne.2 g
  clear g
  by_cases g : a0.toList = [115, 114, 108, 118]
  · rw [if_pos g] at h
    have e4 : (a0.toList == [115, 114, 108, 118]) = true := beq_iff_eq.2 g
    obtain ⟨rfl, rfl, rfl, rfl⟩ := inj4 h
    clear g h
    go_enter Tryd.func41, Tryd.ntmps41
    go_wp2
    exact row_end rfl _ w w (Below.refl _ w) _ rfl rfl _ _ _ _
  rw [if_neg g] at h
  have e4 : (a0.toList == [115, 114, 108, 118]) = false := beq_eq_false_iff_ne.2 g
  clear g
  by_cases g : a0.toList = [115, 114, 97, 118]
  · rw [if_pos g] at h
    have e5 : (a0.toList == [115, 114, 97, 118]) = true := beq_iff_eq.2 g
    obtain ⟨rfl, rfl, rfl, rfl⟩ := inj4 h
    clear g h
    go_enter Tryd.func41, Tryd.ntmps41
    go_wp2
    exact row_end rfl _ w w (Below.refl _ w) _ rfl rfl _ _ _ _
  rw [if_neg g] at h
  have e5 : (a0.toList == [115, 114, 97, 118]) = false := beq_eq_false_iff_ne.2 g
  clear g
  by_cases g : a0.toList = [106, 114]
  · rw [if_pos g] at h
    have e6 : (a0.toList == [106, 114]) = true := beq_iff_eq.2 g
    obtain ⟨rfl, rfl, rfl, rfl⟩ := inj4 h
    clear g h
    go_enter Tryd.func41, Tryd.ntmps41
    go_wp2
    exact row_end rfl _ w w (Below.refl _ w) _ rfl rfl _ _ _ _
  rw [if_neg g] at h
  have e6 : (a0.toList == [106, 114]) = false := beq_eq_false_iff_ne.2 g
  clear g
  by_cases g : a0.toList = [106, 97, 108, 114]
  · rw [if_pos g] at h
    have e7 : (a0.toList == [106, 97, 108, 114]) = true := beq_iff_eq.2 g
    obtain ⟨rfl, rfl, rfl, rfl⟩ := inj4 h
    clear g h
    go_enter Tryd.func41, Tryd.ntmps41
    go_wp2
    exact row_end rfl _ w w (Below.refl _ w) _ rfl rfl _ _ _ _
  rw [if_neg g] at h
  have e7 : (a0.toList == [106, 97, 108, 114]) = false := beq_eq_false_iff_ne.2 g
  clear g
  by_cases g : a0.toList = [109, 111, 118, 122]
  · rw [if_pos g] at h
    have e8 : (a0.toList == [109, 111, 118, 122]) = true := beq_iff_eq.2 g
    obtain ⟨rfl, rfl, rfl, rfl⟩ := inj4 h
    clear g h
    go_enter Tryd.func41, Tryd.ntmps41
    go_wp2
    exact row_end rfl _ w w (Below.refl _ w) _ rfl rfl _ _ _ _
  rw [if_neg g] at h
  have e8 : (a0.toList == [109, 111, 118, 122]) = false := beq_eq_false_iff_ne.2 g
  clear g
  by_cases g : a0.toList = [109, 111, 118, 110]
  · rw [if_pos g] at h
    have e9 : (a0.toList == [109, 111, 118, 110]) = true := beq_iff_eq.2 g
    obtain ⟨rfl, rfl, rfl, rfl⟩ := inj4 h
    clear g h
    go_enter Tryd.func41, Tryd.ntmps41
    go_wp2
    exact row_end rfl _ w w (Below.refl _ w) _ rfl rfl _ _ _ _
  rw [if_neg g] at h
  have e9 : (a0.toList == [109, 111, 118, 110]) = false := beq_eq_false_iff_ne.2 g
  clear g
  by_cases g : a0.toList = [115, 121, 115, 99, 97, 108, 108]
  · rw [if_pos g] at h
    have e10 : (a0.toList == [115, 121, 115, 99, 97, 108, 108]) = true := beq_iff_eq.2 g
    obtain ⟨rfl, rfl, rfl, rfl⟩ := inj4 h
    clear g h
    go_enter Tryd.func41, Tryd.ntmps41
    go_wp2
    exact row_end rfl _ w w (Below.refl _ w) _ rfl rfl _ _ _ _
  rw [if_neg g] at h
  have e10 : (a0.toList == [115, 121, 115, 99, 97, 108, 108]) = false := beq_eq_false_iff_ne.2 g
  clear g
  by_cases g : a0.toList = [98, 114, 101, 97, 107]
  · rw [if_pos g] at h
    have e11 : (a0.toList == [98, 114, 101, 97, 107]) = true := beq_iff_eq.2 g
    obtain ⟨rfl, rfl, rfl, rfl⟩ := inj4 h
    clear g h
    go_enter Tryd.func41, Tryd.ntmps41
    go_wp2
    exact row_end rfl _ w w (Below.refl _ w) _ rfl rfl _ _ _ _
  rw [if_neg g] at h
  have e11 : (a0.toList == [98, 114, 101, 97, 107]) = false := beq_eq_false_iff_ne.2 g
  clear g
  by_cases g : a0.toList = [109, 102, 104, 105]
  · rw [if_pos g] at h
    have e12 : (a0.toList == [109, 102, 104, 105]) = true := beq_iff_eq.2 g
    obtain ⟨rfl, rfl, rfl, rfl⟩ := inj4 h
    clear g h
    go_enter Tryd.func41, Tryd.ntmps41
    go_wp2
    exact row_end rfl _ w w (Below.refl _ w) _ rfl rfl _ _ _ _
  rw [if_neg g] at h
  have e12 : (a0.toList == [109, 102, 104, 105]) = false := beq_eq_false_iff_ne.2 g
  clear g
  by_cases g : a0.toList = [109, 116, 104, 105]
  · rw [if_pos g] at h
    have e13 : (a0.toList == [109, 116, 104, 105]) = true := beq_iff_eq.2 g
    obtain ⟨rfl, rfl, rfl, rfl⟩ := inj4 h
    clear g h
    go_enter Tryd.func41, Tryd.ntmps41
    go_wp2
    exact row_end rfl _ w w (Below.refl _ w) _ rfl rfl _ _ _ _
  rw [if_neg g] at h
  have e13 : (a0.toList == [109, 116, 104, 105]) = false := beq_eq_false_iff_ne.2 g
  clear g
  by_cases g : a0.toList = [109, 102, 108, 111]
  · rw [if_pos g] at h
    have e14 : (a0.toList == [109, 102, 108, 111]) = true := beq_iff_eq.2 g
    obtain ⟨rfl, rfl, rfl, rfl⟩ := inj4 h
    clear g h
    go_enter Tryd.func41, Tryd.ntmps41
    go_wp2
    exact row_end rfl _ w w (Below.refl _ w) _ rfl rfl _ _ _ _
  rw [if_neg g] at h
  have e14 : (a0.toList == [109, 102, 108, 111]) = false := beq_eq_false_iff_ne.2 g
  clear g
  by_cases g : a0.toList = [109, 116, 108, 111]
  · rw [if_pos g] at h
    have e15 : (a0.toList == [109, 116, 108, 111]) = true := beq_iff_eq.2 g
    obtain ⟨rfl, rfl, rfl, rfl⟩ := inj4 h
    clear g h
    go_enter Tryd.func41, Tryd.ntmps41
    go_wp2
    exact row_end rfl _ w w (Below.refl _ w) _ rfl rfl _ _ _ _
  rw [if_neg g] at h
  have e15 : (a0.toList == [109, 116, 108, 111]) = false := beq_eq_false_iff_ne.2 g
  clear g
  by_cases g : a0.toList = [109, 117, 108, 116]
  · rw [if_pos g] at h
    have e16 : (a0.toList == [109, 117, 108, 116]) = true := beq_iff_eq.2 g
    obtain ⟨rfl, rfl, rfl, rfl⟩ := inj4 h
    clear g h
    go_enter Tryd.func41, Tryd.ntmps41
    go_wp2
    exact row_end rfl _ w w (Below.refl _ w) _ rfl rfl _ _ _ _
  rw [if_neg g] at h
  have e16 : (a0.toList == [109, 117, 108, 116]) = false := beq_eq_false_iff_ne.2 g
  clear g
  by_cases g : a0.toList = [109, 117, 108, 116, 117]
  · rw [if_pos g] at h
    have e17 : (a0.toList == [109, 117, 108, 116, 117]) = true := beq_iff_eq.2 g
    obtain ⟨rfl, rfl, rfl, rfl⟩ := inj4 h
    clear g h
    go_enter Tryd.func41, Tryd.ntmps41
    go_wp2
    exact row_end rfl _ w w (Below.refl _ w) _ rfl rfl _ _ _ _
  rw [if_neg g] at h
  have e17 : (a0.toList == [109, 117, 108, 116, 117]) = false := beq_eq_false_iff_ne.2 g
  clear g
  by_cases g : a0.toList = [100, 105, 118]
  · rw [if_pos g] at h
    have e18 : (a0.toList == [100, 105, 118]) = true := beq_iff_eq.2 g
    obtain ⟨rfl, rfl, rfl, rfl⟩ := inj4 h
    clear g h
    go_enter Tryd.func41, Tryd.ntmps41
    go_wp2
    exact row_end rfl _ w w (Below.refl _ w) _ rfl rfl _ _ _ _
  rw [if_neg g] at h
  have e18 : (a0.toList == [100, 105, 118]) = false := beq_eq_false_iff_ne.2 g
  clear g
  by_cases g : a0.toList = [100, 105, 118, 117]
  · rw [if_pos g] at h
    have e19 : (a0.toList == [100, 105, 118, 117]) = true := beq_iff_eq.2 g
    obtain ⟨rfl, rfl, rfl, rfl⟩ := inj4 h
    clear g h
    go_enter Tryd.func41, Tryd.ntmps41
    go_wp2
    exact row_end rfl _ w w (Below.refl _ w) _ rfl rfl _ _ _ _
  rw [if_neg g] at h
  have e19 : (a0.toList == [100, 105, 118, 117]) = false := beq_eq_false_iff_ne.2 g
  clear g
  by_cases g : a0.toList = [97, 100, 100]
  · rw [if_pos g] at h
    have e20 : (a0.toList == [97, 100, 100]) = true := beq_iff_eq.2 g
    obtain ⟨rfl, rfl, rfl, rfl⟩ := inj4 h
    clear g h
    go_enter Tryd.func41, Tryd.ntmps41
    go_wp2
    exact row_end rfl _ w w (Below.refl _ w) _ rfl rfl _ _ _ _
  rw [if_neg g] at h
  have e20 : (a0.toList == [97, 100, 100]) = false := beq_eq_false_iff_ne.2 g
  clear g
  by_cases g : a0.toList = [97, 100, 100, 117]
  · rw [if_pos g] at h
    have e21 : (a0.toList == [97, 100, 100, 117]) = true := beq_iff_eq.2 g
    obtain ⟨rfl, rfl, rfl, rfl⟩ := inj4 h
    clear g h
    go_enter Tryd.func41, Tryd.ntmps41
    go_wp2
    exact row_end rfl _ w w (Below.refl _ w) _ rfl rfl _ _ _ _
  rw [if_neg g] at h
  have e21 : (a0.toList == [97, 100, 100, 117]) = false := beq_eq_false_iff_ne.2 g
  clear g
  by_cases g : a0.toList = [115, 117, 98]
  · rw [if_pos g] at h
    have e22 : (a0.toList == [115, 117, 98]) = true := beq_iff_eq.2 g
    obtain ⟨rfl, rfl, rfl, rfl⟩ := inj4 h
    clear g h
    go_enter Tryd.func41, Tryd.ntmps41
    go_wp2
    exact row_end rfl _ w w (Below.refl _ w) _ rfl rfl _ _ _ _
  rw [if_neg g] at h
  have e22 : (a0.toList == [115, 117, 98]) = false := beq_eq_false_iff_ne.2 g
  clear g
  by_cases g : a0.toList = [115, 117, 98, 117]
  · rw [if_pos g] at h
    have e23 : (a0.toList == [115, 117, 98, 117]) = true := beq_iff_eq.2 g
    obtain ⟨rfl, rfl, rfl, rfl⟩ := inj4 h
    clear g h
    go_enter Tryd.func41, Tryd.ntmps41
    go_wp2
    exact row_end rfl _ w w (Below.refl _ w) _ rfl rfl _ _ _ _
  rw [if_neg g] at h
  have e23 : (a0.toList == [115, 117, 98, 117]) = false := beq_eq_false_iff_ne.2 g
  clear g
  by_cases g : a0.toList = [97, 110, 100]
  · rw [if_pos g] at h
    have e24 : (a0.toList == [97, 110, 100]) = true := beq_iff_eq.2 g
    obtain ⟨rfl, rfl, rfl, rfl⟩ := inj4 h
    clear g h
    go_enter Tryd.func41, Tryd.ntmps41
    go_wp2
    exact row_end rfl _ w w (Below.refl _ w) _ rfl rfl _ _ _ _
  rw [if_neg g] at h
  have e24 : (a0.toList == [97, 110, 100]) = false := beq_eq_false_iff_ne.2 g
  clear g
  by_cases g : a0.toList = [111, 114]
  · rw [if_pos g] at h
    have e25 : (a0.toList == [111, 114]) = true := beq_iff_eq.2 g
    obtain ⟨rfl, rfl, rfl, rfl⟩ := inj4 h
    clear g h
    go_enter Tryd.func41, Tryd.ntmps41
    go_wp2
    exact row_end rfl _ w w (Below.refl _ w) _ rfl rfl _ _ _ _
  rw [if_neg g] at h
  have e25 : (a0.toList == [111, 114]) = false := beq_eq_false_iff_ne.2 g
  clear g
  by_cases g : a0.toList = [120, 111, 114]
  · rw [if_pos g] at h
    have e26 : (a0.toList == [120, 111, 114]) = true := beq_iff_eq.2 g
    obtain ⟨rfl, rfl, rfl, rfl⟩ := inj4 h
    clear g h
    go_enter Tryd.func41, Tryd.ntmps41
    go_wp2
    exact row_end rfl _ w w (Below.refl _ w) _ rfl rfl _ _ _ _
  rw [if_neg g] at h
  have e26 : (a0.toList == [120, 111, 114]) = false := beq_eq_false_iff_ne.2 g
  clear g
  by_cases g : a0.toList = [110, 111, 114]
  · rw [if_pos g] at h
    have e27 : (a0.toList == [110, 111, 114]) = true := beq_iff_eq.2 g
    obtain ⟨rfl, rfl, rfl, rfl⟩ := inj4 h
    clear g h
    go_enter Tryd.func41, Tryd.ntmps41
    go_wp2
    exact row_end rfl _ w w (Below.refl _ w) _ rfl rfl _ _ _ _
  rw [if_neg g] at h
  have e27 : (a0.toList == [110, 111, 114]) = false := beq_eq_false_iff_ne.2 g
  clear g
  by_cases g : a0.toList = [115, 108, 116]
  · rw [if_pos g] at h
    have e28 : (a0.toList == [115, 108, 116]) = true := beq_iff_eq.2 g
    obtain ⟨rfl, rfl, rfl, rfl⟩ := inj4 h
    clear g h
    go_enter Tryd.func41, Tryd.ntmps41
    go_wp2
    exact row_end rfl _ w w (Below.refl _ w) _ rfl rfl _ _ _ _
  rw [if_neg g] at h
  have e28 : (a0.toList == [115, 108, 116]) = false := beq_eq_false_iff_ne.2 g
  clear g
  by_cases g : a0.toList = [115, 108, 116, 117]
  · rw [if_pos g] at h
    have e29 : (a0.toList == [115, 108, 116, 117]) = true := beq_iff_eq.2 g
    obtain ⟨rfl, rfl, rfl, rfl⟩ := inj4 h
    clear g h
    go_enter Tryd.func41, Tryd.ntmps41
    go_wp2
    exact row_end rfl _ w w (Below.refl _ w) _ rfl rfl _ _ _ _
  rw [if_neg g] at h
  have e29 : (a0.toList == [115, 108, 116, 117]) = false := beq_eq_false_iff_ne.2 g
  clear g
  by_cases g : a0.toList = [116, 103, 101]
  · rw [if_pos g] at h
    have e30 : (a0.toList == [116, 103, 101]) = true := beq_iff_eq.2 g
    obtain ⟨rfl, rfl, rfl, rfl⟩ := inj4 h
    clear g h
    go_enter Tryd.func41, Tryd.ntmps41
    go_wp2
    exact row_end rfl _ w w (Below.refl _ w) _ rfl rfl _ _ _ _
  rw [if_neg g] at h
  have e30 : (a0.toList == [116, 103, 101]) = false := beq_eq_false_iff_ne.2 g
  clear g
  by_cases g : a0.toList = [116, 103, 101, 117]
  · rw [if_pos g] at h
    have e31 : (a0.toList == [116, 103, 101, 117]) = true := beq_iff_eq.2 g
    obtain ⟨rfl, rfl, rfl, rfl⟩ := inj4 h
    clear g h
    go_enter Tryd.func41, Tryd.ntmps41
    go_wp2
    exact row_end rfl _ w w (Below.refl _ w) _ rfl rfl _ _ _ _
  rw [if_neg g] at h
  have e31 : (a0.toList == [116, 103, 101, 117]) = false := beq_eq_false_iff_ne.2 g
  clear g
  by_cases g : a0.toList = [116, 108, 116]
  · rw [if_pos g] at h
    have e32 : (a0.toList == [116, 108, 116]) = true := beq_iff_eq.2 g
    obtain ⟨rfl, rfl, rfl, rfl⟩ := inj4 h
    clear g h
    go_enter Tryd.func41, Tryd.ntmps41
    go_wp2
    exact row_end rfl _ w w (Below.refl _ w) _ rfl rfl _ _ _ _
  rw [if_neg g] at h
  have e32 : (a0.toList == [116, 108, 116]) = false := beq_eq_false_iff_ne.2 g
  clear g
  by_cases g : a0.toList = [116, 108, 116, 117]
  · rw [if_pos g] at h
    have e33 : (a0.toList == [116, 108, 116, 117]) = true := beq_iff_eq.2 g
    obtain ⟨rfl, rfl, rfl, rfl⟩ := inj4 h
    clear g h
    go_enter Tryd.func41, Tryd.ntmps41
    go_wp2
    exact row_end rfl _ w w (Below.refl _ w) _ rfl rfl _ _ _ _
  rw [if_neg g] at h
  have e33 : (a0.toList == [116, 108, 116, 117]) = false := beq_eq_false_iff_ne.2 g
  clear g
  by_cases g : a0.toList = [116, 101, 113]
  · rw [if_pos g] at h
    have e34 : (a0.toList == [116, 101, 113]) = true := beq_iff_eq.2 g
    obtain ⟨rfl, rfl, rfl, rfl⟩ := inj4 h
    clear g h
    go_enter Tryd.func41, Tryd.ntmps41
    go_wp2
    exact row_end rfl _ w w (Below.refl _ w) _ rfl rfl _ _ _ _
  rw [if_neg g] at h
  have e34 : (a0.toList == [116, 101, 113]) = false := beq_eq_false_iff_ne.2 g
  clear g
  by_cases g : a0.toList = [116, 110, 101]
  · rw [if_pos g] at h
    have e35 : (a0.toList == [116, 110, 101]) = true := beq_iff_eq.2 g
    obtain ⟨rfl, rfl, rfl, rfl⟩ := inj4 h
    clear g h
    go_enter Tryd.func41, Tryd.ntmps41
    go_wp2
    exact row_end rfl _ w w (Below.refl _ w) _ rfl rfl _ _ _ _
  rw [if_neg g] at h
  have e35 : (a0.toList == [116, 110, 101]) = false := beq_eq_false_iff_ne.2 g
  clear g
  obtain ⟨⟨y1, y2, y3, y4⟩, hq, h⟩ := Option.bind_eq_some_iff.1 h
  obtain ⟨k1, k2, k3, k4⟩ := inj4 h
  dsimp only at k1 k2 k3 k4
  subst k1 k2 k3 k4
  have NX := Lib.hid (fun w => ferryref07_other.calls a0 y1 y2 y3 y4 w hq)
  have RB := Lib.hid (row_back w)
  clear h hq
  go_enter Tryd.func41, Tryd.ntmps41
  go_wp2_with (go_at_call 61; (with_reducible refine (NX.out _).mono ?_); rintro e w1 ⟨rfl, hb⟩; have g1 := RB.out w1 hb; have q0 := sblk_cell (j := 0) (v := .int .u32 0) g1.1 rfl; have u0 := sblk_free (j := 0) g1.1; have q1 := sblk_cell (j := 1) (v := .int .u32 0) g1.1 rfl; have u1 := sblk_free (j := 1) g1.1; have q2 := sblk_cell (j := 2) (v := .int .u32 0) g1.1 rfl; have u2 := sblk_free (j := 2) g1.1; have q3 := sblk_cell (j := 3) (v := .string ⟨#[]⟩) g1.1 rfl; have u3 := sblk_free (j := 3) g1.1; have G1 := Lib.hid g1; clear g1 hb)
  refine bodyPost_ret (results_cell_row rfl _ _ w.heap.size 60 #[.int .u32 y1, .int .u32 y2, .int .u32 y3, .string y4] (0, 0) _ rfl ?_ Tryd.underlying60 rfl (by kernel_rfl)) rfl ?_
  · refine blk_put (cs := #[.int .u32 y1, .int .u32 y2, .int .u32 y3, .string ⟨#[]⟩]) ?_ 3 _ rfl
    refine blk_put (cs := #[.int .u32 y1, .int .u32 y2, .int .u32 0, .string ⟨#[]⟩]) ?_ 2 _ rfl
    refine blk_put (cs := #[.int .u32 y1, .int .u32 0, .int .u32 0, .string ⟨#[]⟩]) ?_ 1 _ rfl
    refine blk_put (cs := #[.int .u32 0, .int .u32 0, .int .u32 0, .string ⟨#[]⟩]) ?_ 0 _ rfl
    exact G1.out.1
  · exact ⟨rfl, (Below.setCell (p := ⟨w.heap.size, 3, none⟩) (Below.setCell (p := ⟨w.heap.size, 2, none⟩) (Below.setCell (p := ⟨w.heap.size, 1, none⟩) (Below.setCell (p := ⟨w.heap.size, 0, none⟩) G1.out.2 (Nat.le_refl _) _) (Nat.le_refl _) _) (Nat.le_refl _) _) (Nat.le_refl _) _)⟩
end Go.Proofs.YtnddjndgfaefaaaDoor.F
end
