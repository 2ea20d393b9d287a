import Derived.Below
import Derived.Deep.Draws
import Derived.Deep.AppendLies
import Derived.Maps.AppendAt
import Derived.OwnWalk
import Derived.Laws.BytesArg
import Derived.Laws.MakeOwn
import Derived.Laws.OwnMore
import Derived.Deep.OwnRows
import Derived.Tactics
import Derived.Lib.ConvBytes
import Derived.Laws.Slices
import Derived.WalkKit
import Derived.KernelRfl
import Derived.RowKit3
import Derived.Deep.LoopGhost
import Derived.Deep.QuietTactic
import Derived.BigQuiet
import Derived.WideLaws
import Derived.Deep.DeepCutAuto
import Derived.Deep.CutBlock
import Derived.Deep.RegionHeld3
import Derived.Laws.Rows
import Derived.Lib.AppendStr
import Derived.ArgAppend
import Derived.Laws.IdiomCopy
import Derived.RowKit
import Derived.OrdersHeld
import Derived.Laws.BitsLemmas
import Derived.Laws.StructEq
import Derived.ProofKit
import Derived.Lib.Hide
import Derived.Maps.OwnOps
import Derived.RangeFuncRecord
import Derived.Shelf.LaysM
import Derived.Shelf.Strings.Replace
import Derived.Lib.LaidTab
import Derived.Shelf.Abstract
import Derived.OwnWalkIn
import Derived.WalkSmall
import Derived.Laws.ResultCell
import Derived.Shelf.RegionOpen
import Derived.Deep.RegionWith
import Derived.OpenShut
import Derived.Deep.Slices
import Derived.SizedLaws
import Derived.Test.YtjkpgfjnidflhaaDoorZF0
import Derived.Test.YtjkpgfjnidflhaaDoorYA0
import Derived.Test.YtjkpgfjnidflhaaDoorYA1HDecRef
import Derived.Test.YtjkpgfjnidflhaaDoorYA3
import Derived.Test.YtjkpgfjnidflhaaDoorYA5HDecTake
import Derived.Test.YtjkpgfjnidflhaaDoorYA15HDecTop
section
namespace Go.Proofs.YtjkpgfjnidflhaaDoor.F
open Go.RowKit Go.Proofs.YtjkpgfjnidflhaaDoorW.PrintWords Go.Proofs.YtjkpgfjnidflhaaDoorW.PrintLast Go.Proofs.YtjkpgfjnidflhaaDoorW.PrintMore
attribute [local go_sem] max2_int min2_int max_two min_two max_three min_three max_four min_four
set_option linter.unusedVariables false
set_option linter.unusedSimpArgs false

def dec_Form.f (a0 : ByteArray) : Option (ByteArray) := (dec_named.f a0).bind fun bt159 => (some bt159.2.2.2.1)
set_option maxHeartbeats 8000000 in
set_option maxRecDepth 100000 in
theorem dec_Form.calls (a0 : ByteArray) (r : ByteArray) (w : World) (hL : Laid w) (h : dec_Form.f a0 = some r) :
    Calls Tryd.prog 11 #[.string a0] w fun e w' => e = .returned (.string r) ∧ Below w.heap.size w w' := by
  have hu38 := Tryd.underlying38
  have HB := Aside0.mk (Below.refl w.heap.size w)
  have H : ((dec_named.f a0).bind fun bt159 => (some bt159.2.2.2.1)) = some r := h
  clear h
  replace H := Option.bind_eq_some_iff.mp H
  obtain ⟨⟨t159, t160, t161, t162, t163⟩, A20, H⟩ := H
  replace H : (some t162) = some r := H
  have A2 := Aside0.mk A20
  clear A20
  obtain rfl := Option.some.inj H
  go_enter Tryd.func11, Tryd.ntmps11
  go_wp2_with (first | ((with_reducible refine gate_callee (f := 23) rfl ?_); refine goesL_ (some 7) rfl rfl Tryd.func23 (by kernel_rfl) rfl #[.string a0] rfl (by (try simp only [List.map_toArray, List.map_cons, List.map_nil]); first | done | rfl | (simp only [List.length_drop, List.length_take]; rfl)) ?_; (with_reducible refine (dec_named.calls a0 t159 t160 t161 t162 t163 _ ?side1 A2.out).mono ?_); (case side1 => first | with_reducible exact hL | exact Laid.below hL (by repeat (first | (with_reducible first | exact HB.out | apply below_alloc | apply pw_below_drewN | apply below_drew1) | exact HB.out))); rintro e w3 ⟨rfl, hb⟩; refine ⟨_, rfl, ?_⟩; have n0_ := Aside0.mk (below_step (by repeat (first | (with_reducible first | exact HB.out | apply below_alloc | apply pw_below_drewN | apply below_drew1) | exact HB.out)) hb); clear HB; have HB := n0_; clear n0_; (try clear hb); (try clear hb2); (try clear hk); (try clear hi)) | ((with_reducible refine gate_dst (N := 3) rfl ?_); refine box_event ?hg (N := 3) ?hd (cs := #[.string (⟨#[]⟩ : ByteArray), .int .u32 0, .int .u32 0, .string (⟨#[]⟩ : ByteArray)]) (t := 38) ?hr ?_; (case hd => rfl); (case hg => rfl); (case hr => first | (go_simp; done) | (go_simp; rfl)); intro gb164 hg w4 hbox hb; have n0_ := Aside0.mk (below_step (by repeat (first | (with_reducible first | exact HB.out | apply below_alloc | apply pw_below_drewN | apply below_drew1) | exact HB.out)) hb); have n1_ := Aside0.mk (hbox); have n2_ := Aside0.mk ((by rw [hg]; exact (below_size (by repeat (first | (with_reducible first | exact HB.out | apply below_alloc | apply pw_below_drewN | apply below_drew1) | exact HB.out))) : w.heap.size ≤ gb164)); have n3_ := Aside0.mk ((by rw [hg]; exact (below_size (by repeat (first | (with_reducible first | exact HB.out | apply below_alloc | apply pw_below_drewN | apply below_drew1) | exact HB.out))) : w.heap.size ≤ gb164)); clear HB; have HB := n0_; have BK164 := n1_; have GW164 := n2_; have GE164 := n3_; clear n0_ n1_ n2_ n3_; clear hb hbox hg; have hcz5_0 : w4.cell? ⟨gb164, 0, none⟩ = some (.string (⟨#[]⟩ : ByteArray)) := (blk_cell BK164.out 0).trans rfl; have hcz5_1 : w4.cell? ⟨gb164, 1, none⟩ = some (.int .u32 0) := (blk_cell BK164.out 1).trans rfl; have hcz5_2 : w4.cell? ⟨gb164, 2, none⟩ = some (.int .u32 0) := (blk_cell BK164.out 2).trans rfl; have hcz5_3 : w4.cell? ⟨gb164, 3, none⟩ = some (.string (⟨#[]⟩ : ByteArray)) := (blk_cell BK164.out 3).trans rfl; have hfz5_0 := blk_frozen BK164.out 0; have hfz5_1 := blk_frozen BK164.out 1; have hfz5_2 := blk_frozen BK164.out 2; have hfz5_3 := blk_frozen BK164.out 3))
  go_ret
  exact ⟨by first | rfl | (simp [errW_none, errW_some] <;> rfl) | (simp [*, errW_none, errW_some] <;> rfl), by repeat (first | (with_reducible first | exact HB.out | apply below_alloc | apply pw_below_drewN | apply below_drew1 | refine below_set ?_ GE164.out) | exact HB.out)⟩

end Go.Proofs.YtjkpgfjnidflhaaDoor.F
end
section
namespace Go.Proofs.YtjkpgfjnidflhaaDoor.F
open Go.RowKit Go.Shelf Go.Proofs.YtjkpgfjnidflhaaDoorW.PrintWords Go.Proofs.YtjkpgfjnidflhaaDoorW.PrintLast Go.Proofs.YtjkpgfjnidflhaaDoorW.PrintMore
set_option linter.unusedVariables false
set_option linter.unusedSimpArgs false
def same7 (o : Option (ByteArray × Int × Int × Int × Int × Int × Bool)) (l : List UInt8) (s t d a i : Int) (b : Bool) : Bool := match o with
  | some y => y.1.toList == l && y.2.1 == s && y.2.2.1 == t && y.2.2.2.1 == d && y.2.2.2.2.1 == a && y.2.2.2.2.2.1 == i && y.2.2.2.2.2.2 == b
  | none => false
theorem same7_eq (o : Option (ByteArray × Int × Int × Int × Int × Int × Bool)) (l : List UInt8) (s t d a i : Int) (b : Bool) (h : same7 o l s t d a i b = true) : o = some (⟨l.toArray⟩, s, t, d, a, i, b) := by
  cases o with
  | none => cases h
  | some y =>
    obtain ⟨y0, y1, y2, y3, y4, y5, y6⟩ := y
    unfold same7 at h
    simp only [Bool.and_eq_true, beq_iff_eq] at h
    obtain ⟨⟨⟨⟨⟨⟨h0, rfl⟩, rfl⟩, rfl⟩, rfl⟩, rfl⟩, rfl⟩ := h
    rw [bytes_of h0]
theorem ex_addu : dec_Decode.f 8720417 = some (⟨#[97, 100, 100, 117]⟩, 4, 5, 2, 0, 0, true) := same7_eq _ [97, 100, 100, 117] 4 5 2 0 0 true (by decide +kernel)
theorem ex_syscall : dec_Decode.f 12 = some (⟨#[115, 121, 115, 99, 97, 108, 108]⟩, 0, 0, 0, 0, 0, true) := same7_eq _ [115, 121, 115, 99, 97, 108, 108] 0 0 0 0 0 true (by decide +kernel)
theorem ex_none : dec_Decode.f 4294967295 = some (⟨#[]⟩, 0, 0, 0, 0, 0, false) := same7_eq _ [] 0 0 0 0 0 false (by decide +kernel)
theorem ex_form : dec_Form.f ⟨#[108, 119]⟩ = some ⟨#[116, 109]⟩ := by decide +kernel
-- HAND fn=ferry/ferrylaw07.awake ; rounds=0 ; making=1 ; laid=1
def ferrylaw07_awake.f : Option Bool := some true
set_option maxHeartbeats 8000000 in
set_option maxRecDepth 100000 in
theorem ferrylaw07_awake.calls (r : Bool) (w : World) (hL : Laid w) (h : ferrylaw07_awake.f = some r) :
    Calls Tryd.prog 10 #[] w fun e w' => e = .returned (.bool r) ∧ Below w.heap.size w w' := by
  obtain rfl := Option.some.inj h
  clear h
  have D1 := Lib.hid (fun w hL => dec_Decode.calls 8720417 _ _ _ _ _ _ _ w hL ex_addu)
  have D2 := Lib.hid (fun w hL => dec_Decode.calls 12 _ _ _ _ _ _ _ w hL ex_syscall)
  have D3 := Lib.hid (fun w hL => dec_Decode.calls 4294967295 _ _ _ _ _ _ _ w hL ex_none)
  have D4 := Lib.hid (fun w hL => dec_Form.calls ⟨#[108, 119]⟩ _ w hL ex_form)
  have HL := Lib.hid hL
  clear hL
  go_enter Tryd.func10, Tryd.ntmps10
  go_wp2_with (first
    | (go_at_call 8; (with_reducible refine (D1.out _ HL.out).mono ?_); rintro ex w1 ⟨rfl, hb1⟩; have A1 := (Below.refl _ w1).alloc (Nat.le_refl _) (.cells #[.string ⟨#[97, 100, 100, 117]⟩, .int .i64 4, .int .i64 5, .int .i64 2, .int .i64 0, .int .u32 0] 24); have B1 := Lib.hid (hb1.trans (A1.mono hb1.size)); have I1 := Lib.hid (World.alloc_heap_new w1 (.cells #[.string ⟨#[97, 100, 100, 117]⟩, .int .i64 4, .int .i64 5, .int .i64 2, .int .i64 0, .int .u32 0] 24)); clear A1 hb1)
    | (go_at_call 8; (with_reducible refine (D2.out _ (Laid.below HL.out B1.out)).mono ?_); rintro ex w2 ⟨rfl, hb2⟩; have A2 := (Below.refl _ w2).alloc (Nat.le_refl _) (.cells #[.string ⟨#[115, 121, 115, 99, 97, 108, 108]⟩, .int .i64 0, .int .i64 0, .int .i64 0, .int .i64 0, .int .u32 0] 24); have I12 := Lib.hid (((hb2.trans (A2.mono hb2.size)).block _ (dblk_lt I1.out)).trans I1.out); have B2 := Lib.hid (B1.out.trans ((hb2.trans (A2.mono hb2.size)).mono B1.out.size)); have I2 := Lib.hid (World.alloc_heap_new w2 (.cells #[.string ⟨#[115, 121, 115, 99, 97, 108, 108]⟩, .int .i64 0, .int .i64 0, .int .i64 0, .int .i64 0, .int .u32 0] 24)); clear A2 hb2)
    | (go_at_call 8; (with_reducible refine (D3.out _ (Laid.below HL.out B2.out)).mono ?_); rintro ex w3 ⟨rfl, hb3⟩; have A3 := (Below.refl _ w3).alloc (Nat.le_refl _) (.cells #[.string ⟨#[]⟩, .int .i64 0, .int .i64 0, .int .i64 0, .int .i64 0, .int .u32 0] 24); have h3 := hb3.trans (A3.mono hb3.size); have i13 := (h3.block _ (dblk_lt I12.out)).trans I12.out; have i23 := (h3.block _ (dblk_lt I2.out)).trans I2.out; have B3 := Lib.hid (B2.out.trans (h3.mono B2.out.size)); have x0 := dblk_cell (j := 0) (v := .string ⟨#[97, 100, 100, 117]⟩) i13 rfl; have x1 := dblk_cell (j := 1) (v := .int .i64 4) i13 rfl; have x2 := dblk_cell (j := 2) (v := .int .i64 5) i13 rfl; have x3 := dblk_cell (j := 3) (v := .int .i64 2) i13 rfl; have x4 := dblk_cell (j := 4) (v := .int .i64 0) i13 rfl; have x5 := dblk_cell (j := 5) (v := .int .u32 0) i13 rfl; have y0 := dblk_cell (j := 0) (v := .string ⟨#[115, 121, 115, 99, 97, 108, 108]⟩) i23 rfl; have y1 := dblk_cell (j := 1) (v := .int .i64 0) i23 rfl; have y2 := dblk_cell (j := 2) (v := .int .i64 0) i23 rfl; have y3 := dblk_cell (j := 3) (v := .int .i64 0) i23 rfl; have y4 := dblk_cell (j := 4) (v := .int .i64 0) i23 rfl; have y5 := dblk_cell (j := 5) (v := .int .u32 0) i23 rfl; clear A3 hb3 h3 i13 i23)
    | (go_at_call 11; (with_reducible refine (D4.out _ (Laid.below HL.out B3.out)).mono ?_); rintro ex w4 ⟨rfl, hb4⟩; have B4 := Lib.hid (B3.out.trans (hb4.mono B3.out.size)); clear hb4))
  go_ret
  exact ⟨by first | rfl | (simp; done) | decide +kernel, B4.out⟩
end Go.Proofs.YtjkpgfjnidflhaaDoor.F
end
section
namespace Go.Proofs.YtjkpgfjnidflhaaDoor.Opens
open Go.ChangeShapes Go.WideShapes Go.RowKit Go.Deep
open Go.Proofs.YtjkpgfjnidflhaaDoorW.PrintWords

def Opens {α : Type} (P : Program) (t : TypeId) (d : Kd α) (wf : α → Prop) : Prop :=
  P.cellsOf t = d.sz ∧ ∀ {H : Type} (enc : TypeId × Value → H) (w : World) (base : Nat) (spare : Nat → Bool) (held : Bool) (fuel : Nat) (cs : List Value) (x : DataW H × List MemPlace),
    DataW.trod enc P w base spare held fuel t cs = some x → ∃ a : α, d.K w a cs ∧ wf a
theorem wf_u32 {n : Int} (h : (Lit.int .u32 n).wf = true) : 0 ≤ n ∧ n ≤ 4294967295 := by
  simp only [Lit.wf, Bool.and_eq_true, decide_eq_true_eq] at h
  exact ⟨h.1, h.2⟩
end Go.Proofs.YtjkpgfjnidflhaaDoor.Opens
end
section
namespace Go.Proofs.YtjkpgfjnidflhaaDoor.F
open Go.RowKit Go.Proofs.YtjkpgfjnidflhaaDoorW.PrintWords Go.Proofs.YtjkpgfjnidflhaaDoorW.PrintLast Go.Proofs.YtjkpgfjnidflhaaDoorW.PrintMore
theorem u32w (n : Int) : IntKind.u32.wrap n = n % 4294967296 := by simp [IntKind.wrap, IntKind.bits, IntKind.signed]
theorem w64_id {n : Int} (h0 : -9223372036854775808 ≤ n) (h1 : n ≤ 9223372036854775807) : wrap64 n = n := by unfold wrap64; omega
theorem u32_keep (n : Int) (h₀ : 0 ≤ n) (h₁ : n < 2 ^ 32) : IntKind.u32.wrap n = n := by rw [u32w]; omega
theorem mask32 {x : Int} (i : Nat) (hi : i ≤ 32) (h0 : 0 ≤ x) (h1 : x ≤ 4294967295) : Go.bits .and .u32 x (2 ^ i - 1) = x % 2 ^ i := bits_mask .u32 32 (by decide) u32_keep i hi x h0 (by omega)
end Go.Proofs.YtjkpgfjnidflhaaDoor.F
end
section
namespace Go.Proofs.YtjkpgfjnidflhaaDoor.F
open Go.RowKit
set_option linter.unusedVariables false
set_option linter.unusedSimpArgs false
def mkW (o s t d a f : Nat) : Nat := 67108864 * o + (2097152 * s + (65536 * t + (2048 * d + (64 * a + f))))
theorem mkW_lt {o s t d a f : Nat} (ho : o < 64) (hs : s < 32) (ht : t < 32) (hd : d < 32) (ha : a < 32) (hf : f < 64) : mkW o s t d a f < 4294967296 := by unfold mkW; omega
end Go.Proofs.YtjkpgfjnidflhaaDoor.F
end
section
namespace Go.Proofs.YtjkpgfjnidflhaaDoor.F
open Go.RowKit Go.Proofs.YtjkpgfjnidflhaaDoorW.PrintWords Go.Proofs.YtjkpgfjnidflhaaDoorW.PrintLast Go.Proofs.YtjkpgfjnidflhaaDoorW.PrintMore
set_option linter.unusedVariables false
set_option linter.unusedSimpArgs false
def W (o s t d a f : Nat) : Nat := mkW (o % 64) (s % 32) (t % 32) (d % 32) (a % 32) (f % 64)
theorem W_lt (o s t d a f : Nat) : W o s t d a f < 4294967296 := mkW_lt (by omega) (by omega) (by omega) (by omega) (by omega) (by omega)
theorem W_val (o s t d a f : Nat) : (W o s t d a f : Int) = 67108864 * ((o % 64 : Nat) : Int) + (2097152 * ((s % 32 : Nat) : Int) + (65536 * ((t % 32 : Nat) : Int) + (2048 * ((d % 32 : Nat) : Int) + (64 * ((a % 32 : Nat) : Int) + ((f % 64 : Nat) : Int))))) := by
  unfold W mkW
  omega
end Go.Proofs.YtjkpgfjnidflhaaDoor.F
end
section
namespace Go.Proofs.YtjkpgfjnidflhaaDoor.F
open Go.RowKit Go.Proofs.YtjkpgfjnidflhaaDoorW.PrintWords Go.Proofs.YtjkpgfjnidflhaaDoorW.PrintLast Go.Proofs.YtjkpgfjnidflhaaDoorW.PrintMore
set_option linter.unusedVariables false
set_option linter.unusedSimpArgs false
theorem fits_bound {n : Int} {h : Bool} (hf : fitsOf n h = true) : 0 ≤ n ∧ n < 32 ∧ (h = false → n = 0) := by
  unfold fitsOf ferryref07_fits.f at hf
  by_cases h0 : n = 0
  · subst h0
    exact ⟨by omega, by omega, fun _ => rfl⟩
  · rw [if_neg h0] at hf
    by_cases h1 : h = true
    · rw [if_pos h1] at hf
      by_cases h2 : n > 0
      · rw [if_pos h2] at hf
        have h3 : n < 32 := by simpa using hf
        exact ⟨by omega, h3, fun e => by rw [h1] at e; cases e⟩
      · rw [if_neg h2] at hf
        cases hf
    · rw [if_neg h1] at hf
      cases hf
theorem fits_of {n : Int} {h : Bool} (h0 : 0 ≤ n) (h1 : n < 32) (h2 : h = false → n = 0) : fitsOf n h = true := by
  unfold fitsOf ferryref07_fits.f
  by_cases e : n = 0
  · rw [if_pos e]
    rfl
  · rw [if_neg e]
    cases h with
    | false => exact absurd (h2 rfl) e
    | true =>
      rw [if_pos rfl, if_pos (by omega)]
      simpa using h1
end Go.Proofs.YtjkpgfjnidflhaaDoor.F
end
