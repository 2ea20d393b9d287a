import Derived.Shelf.LaysM
import Derived.Shelf.Strings.SplitShaped
import Derived.Below
import Derived.Deep.Draws
import Derived.Deep.AppendLies
import Derived.Maps.AppendAt
import Derived.OwnWalk
import Derived.Laws.BytesArg
import Derived.Laws.MakeOwn
import Derived.Laws.OwnMore
import Derived.Deep.OwnRows
import Derived.Tactics
import Derived.Lib.ConvBytes
import Derived.Laws.Slices
import Derived.WalkKit
import Derived.KernelRfl
import Derived.RowKit3
import Derived.Deep.LoopGhost
import Derived.Deep.QuietTactic
import Derived.BigQuiet
import Derived.WideLaws
import Derived.Deep.DeepCutAuto
import Derived.Deep.CutBlock
import Derived.Deep.RegionHeld3
import Derived.Laws.Rows
import Derived.Lib.AppendStr
import Derived.ArgAppend
import Derived.Laws.IdiomCopy
import Derived.RowKit
import Derived.OrdersHeld
import Derived.Laws.BitsLemmas
import Derived.Laws.StructEq
import Derived.ProofKit
import Derived.OwnWalkIn
import Derived.WalkSmall
import Derived.Laws.ResultCell
import Derived.RangeFuncRecord
import Derived.Lib.Hide
import Derived.Deep.RegionWith
import Derived.Maps.OwnOps
import Derived.Shelf.Strings.Replace
import Derived.Lib.LaidTab
import Derived.Shelf.Abstract
import Derived.Shelf.RegionOpen
import Derived.OpenShut
import Derived.Deep.Slices
import Derived.SizedLaws
import Derived.ShutString
import Derived.ChangeOld
import Derived.Lay
import Derived.LaidMore
import Derived.Stop.Joined
import Derived.SevenTiedAt
import Derived.Handed
import Derived.MakeChecks
import Derived.JoinedCond
import Derived.Deep.DeepHandedRow
import Derived.Test.YtjkpgfjnidflhaaDoorZF0
import Derived.Test.YtjkpgfjnidflhaaDoorYA0
import Derived.Test.YtjkpgfjnidflhaaDoorYA3
import Derived.Test.YtjkpgfjnidflhaaDoorYA16
import Derived.Test.YtjkpgfjnidflhaaDoorYG26Opens
import Derived.Test.YtjkpgfjnidflhaaDoorYN60Opens
import Derived.Test.YtjkpgfjnidflhaaDoorYN61FFerrylaw07DecWords
import Derived.Test.YtjkpgfjnidflhaaDoorYN63PureDecWords
import Derived.Test.YtjkpgfjnidflhaaDoorRows
import Derived.Test.YtjkpgfjnidflhaaDoorCards
import Derived.Test.YtjkpgfjnidflhaaDoorTie
/- The law DecWords holds of the given program: for every input it returns true and leaves its arguments as they were. No condition but the row's own: package-level variables read as the program's text lays them (tied). -/
namespace Go.Proofs.YtjkpgfjnidflhaaDoor.decWords
open Go.ChangeShapes Go.WideShapes Go.ChangeAt Go.RowKit
open Go.ChangeMaps (open_string shut_string)
open Go.Proofs.YtjkpgfjnidflhaaDoor.F Go.Proofs.YtjkpgfjnidflhaaDoorW.PrintWords
theorem own : ownKnob Tryd.prog.godebug = none := by kernel_rfl
theorem laidOut : laidOutB Tryd.prog = true := by kernel_rfl
set_option maxRecDepth 100000 in
theorem door_met (os : Os) (args : Array Value) : laidMetH Tryd.prog Rows.decWordsRow.laid ((World.laidAll Tryd.prog os Rows.decWordsRow.laid).forCall (fun _ _ => 0) ⟨#[], args, []⟩).memory := by
  rw [MakeChecks.laidMetH_plain _ _ _ (by kernel_rfl)]
  exact laidMet_laidAll _ (by kernel_rfl) (by kernel_rfl)
theorem of_laid {W : World} (_ : laidMetH Tryd.prog Rows.decWordsRow.laid W) : Tab W := trivial
set_option maxRecDepth 100000 in
set_option maxHeartbeats 4000000 in
theorem lifted (os : Os) (started : os.Started) (H : Type) (enc : TypeId × Value → H) (F : Stop.Interp) :
    ReturnsInHanded {} Tryd.checked os 7 .any ((OpenSpec.ofChange Rows.decWordsSpec).preRow enc Tryd.prog Tryd.f7 Rows.decWordsRow.domain false Rows.decWordsRow.laid) (((OpenSpec.ofChange Rows.decWordsSpec).at F).post enc Tryd.prog Tryd.f7 false true false false) := by
  refine returnsInHanded_of_row (C := Tryd.checked) (s := OpenSpec.ofChange Rows.decWordsSpec) own started (by kernel_rfl) Tryd.func7
    (ChangeSpec.witness_shaped (enc := enc) (C := Tryd.checked) (os := os) (X := fun w _ => laidMetH Tryd.prog Rows.decWordsRow.laid w) false (World.laidAll Tryd.prog os Rows.decWordsRow.laid) #[.int .u8 0, .int .u8 0, .int .u8 0, .agg #[.string ByteArray.empty, .int .i64 0, .int .i64 0, .int .i64 0, .int .i64 0, .int .u32 0], .agg #[.string ByteArray.empty, .int .i64 0, .int .i64 0, .int .i64 0, .int .i64 0, .int .u32 0]] 16 (World.laidAll_os _ _ _) (World.shaped_of_ZipB (by kernel_rfl) (by kernel_rfl)) (by kernel_rfl) (by kernel_rfl) (by kernel_rfl) (door_met os _)) ?_
  intro W base args ds gs before hval0 hW hcnd _ hsz0 hLaid hShaped _
  have hL : Laid W := ⟨of_laid hLaid, Tryd.laysM143.s1_3 W hShaped⟩
  have hval : ∀ (j : Nat) t v, Tryd.f7.params[j]? = some t → args[j]? = some v → Value.okWide Tryd.prog W .any base t v := hval0
  have hW' := hW
  obtain ⟨p, q, hA0, hV, rfl, hfz, hnd⟩ := hW
  have hA : DataW.TrodAll enc Tryd.prog W 0 (fun _ => true) true Tryd.f7.params.toList args.toList ds p := hA0
  rw [Tryd.params7] at hA hval
  obtain ⟨v0, vs0, d0, ds0, p0, q0, hargs, rfl, rfl, h0, r0⟩ := trodAll_cons hA
  obtain ⟨v1, vs1, d1, ds1, p1, q1, rfl, rfl, rfl, h1, r1⟩ := trodAll_cons r0
  obtain ⟨v2, vs2, d2, ds2, p2, q2, rfl, rfl, rfl, h2, r2⟩ := trodAll_cons r1
  obtain ⟨v3, vs3, d3, ds3, p3, q3, rfl, rfl, rfl, h3, r3⟩ := trodAll_cons r2
  obtain ⟨v4, vs4, d4, ds4, p4, q4, rfl, rfl, rfl, h4, r4⟩ := trodAll_cons r3
  obtain ⟨rfl, rfl, rfl⟩ := trodAll_nil r4
  obtain rfl : args = #[v0, v1, v2, v3, v4] := by cases args; simp_all
  obtain ⟨rfl, rfl⟩ := trodVars_none hV
  have k0 := h0
  have lt0 : ∀ x ∈ p0, x.block < W.heap.size := by obtain ⟨m, hm⟩ := k0; exact DataW.trod_lt m _ _ _ hm
  obtain ⟨a0, rfl, rfl, rfl, w0⟩ := open_int Tryd.underlying5 (hval 0 5 v0 rfl rfl) h0
  have k1 := h1
  have lt1 : ∀ x ∈ p1, x.block < W.heap.size := by obtain ⟨m, hm⟩ := k1; exact DataW.trod_lt m _ _ _ hm
  obtain ⟨a1, rfl, rfl, rfl, w1⟩ := open_int Tryd.underlying5 (hval 1 5 v1 rfl rfl) h1
  have k2 := h2
  have lt2 : ∀ x ∈ p2, x.block < W.heap.size := by obtain ⟨m, hm⟩ := k2; exact DataW.trod_lt m _ _ _ hm
  obtain ⟨a2, rfl, rfl, rfl, w2⟩ := open_int Tryd.underlying5 (hval 2 5 v2 rfl rfl) h2
  have k3 := h3
  have lt3 : ∀ x ∈ p3, x.block < W.heap.size := by obtain ⟨m, hm⟩ := k3; exact DataW.trod_lt m _ _ _ hm
  obtain ⟨cs3, x3, rfl, hK3, hw3⟩ := Opens.arg_struct Tryd.underlying24 (hval 3 24 v3 rfl rfl) (Opens.opens_struct (by kernel_rfl) Tryd.underlying24 (Opens.opens_cons rfl (Opens.opens_string (by kernel_rfl) (by kernel_rfl)) (Opens.opens_cons rfl (Opens.opens_i64 (by kernel_rfl) (by kernel_rfl)) (Opens.opens_cons rfl (Opens.opens_i64 (by kernel_rfl) (by kernel_rfl)) (Opens.opens_cons rfl (Opens.opens_i64 (by kernel_rfl) (by kernel_rfl)) (Opens.opens_cons rfl (Opens.opens_i64 (by kernel_rfl) (by kernel_rfl)) (Opens.opens_one rfl (Opens.opens_u32 (by kernel_rfl) (by kernel_rfl))))))))) h3
  obtain ⟨a3_0, a3_1, a3_2, a3_3, a3_4, a3_5⟩ := x3
  obtain ⟨_, _, rfl, rfl, ⟨_, _, rfl, rfl, ⟨_, _, rfl, rfl, ⟨_, _, rfl, rfl, ⟨_, _, rfl, rfl, rfl⟩⟩⟩⟩⟩ := hK3
  obtain ⟨wa3_0, wa3_1, wa3_2, wa3_3, wa3_4, wa3_5⟩ := hw3
  have k4 := h4
  have lt4 : ∀ x ∈ p4, x.block < W.heap.size := by obtain ⟨m, hm⟩ := k4; exact DataW.trod_lt m _ _ _ hm
  obtain ⟨cs4, x4, rfl, hK4, hw4⟩ := Opens.arg_struct Tryd.underlying24 (hval 4 24 v4 rfl rfl) (Opens.opens_struct (by kernel_rfl) Tryd.underlying24 (Opens.opens_cons rfl (Opens.opens_string (by kernel_rfl) (by kernel_rfl)) (Opens.opens_cons rfl (Opens.opens_i64 (by kernel_rfl) (by kernel_rfl)) (Opens.opens_cons rfl (Opens.opens_i64 (by kernel_rfl) (by kernel_rfl)) (Opens.opens_cons rfl (Opens.opens_i64 (by kernel_rfl) (by kernel_rfl)) (Opens.opens_cons rfl (Opens.opens_i64 (by kernel_rfl) (by kernel_rfl)) (Opens.opens_one rfl (Opens.opens_u32 (by kernel_rfl) (by kernel_rfl))))))))) h4
  obtain ⟨a4_0, a4_1, a4_2, a4_3, a4_4, a4_5⟩ := x4
  obtain ⟨_, _, rfl, rfl, ⟨_, _, rfl, rfl, ⟨_, _, rfl, rfl, ⟨_, _, rfl, rfl, ⟨_, _, rfl, rfl, rfl⟩⟩⟩⟩⟩ := hK4
  obtain ⟨wa4_0, wa4_1, wa4_2, wa4_3, wa4_4, wa4_5⟩ := hw4
  clear hA0 hval0 hsz0
  obtain ⟨k, h⟩ := DecWords_pure a0 a1 a2 a3_0 a3_1 a3_2 a3_3 a3_4 a3_5 a4_0 a4_1 a4_2 a4_3 a4_4 a4_5 (Opens.wf_u8 w0) (Opens.wf_u8 w1) (Opens.wf_u8 w2) wa3_0 wa3_1 wa3_2 wa3_3 wa3_4 wa3_5 wa4_0 wa4_1 wa4_2 wa4_3 wa4_4 wa4_5
  have hcall := ferrylaw07_DecWords.calls k a0 a1 a2 a3_0 a3_1 a3_2 a3_3 a3_4 a3_5 a4_0 a4_1 a4_2 a4_3 a4_4 a4_5 true W  hL h
  refine (hcall.mono ?_ : Calls Tryd.prog 7 #[.int .u8 a0, .int .u8 a1, .int .u8 a2, .agg #[.string a3_0, .int .i64 a3_1, .int .i64 a3_2, .int .i64 a3_3, .int .i64 a3_4, .int .u32 a3_5], .agg #[.string a4_0, .int .i64 a4_1, .int .i64 a4_2, .int .i64 a4_3, .int .i64 a4_4, .int .u32 a4_5]] W _)
  rintro e W' ⟨rfl, bel0⟩
  have bel : Below W.heap.size W W' := bel0
  exact ⟨_, rfl, _, _, _, [], _, [], hW', trodAll_mk1 (shut_bool Tryd.underlying4 _), (trodAll_cons_mk (Below.trod laidOut (by kernel_rfl) (of_decide_eq_true (by kernel_rfl)) k0 bel lt0) (trodAll_cons_mk (Below.trod laidOut (by kernel_rfl) (of_decide_eq_true (by kernel_rfl)) k1 bel lt1) (trodAll_cons_mk (Below.trod laidOut (by kernel_rfl) (of_decide_eq_true (by kernel_rfl)) k2 bel lt2) (trodAll_cons_mk (Below.trod laidOut (by kernel_rfl) (of_decide_eq_true (by kernel_rfl)) k3 bel lt3) (trodAll_cons_mk (Below.trod laidOut (by kernel_rfl) (of_decide_eq_true (by kernel_rfl)) k4 bel lt4) trodAll_mk0))))), rfl, bel.frame _, fun h => by cases h⟩
theorem over : Rows.decWordsRow.holds Tryd.pinned (OpenSpec.ofChange Rows.decWordsSpec) :=
  OpenClaim.holds_of_cond 7 Tryd.f7 rfl rfl rfl rfl rfl rfl rfl ⟨rfl, rfl, rfl, rfl, rfl⟩ rfl rfl rfl rfl rfl (by kernel_rfl) Tryd.func7 (by kernel_rfl)
    (of_decide_eq_true (by kernel_rfl)) (by unfold Func.isWrapper; first | (rw [if_pos (by decide +kernel)]; kernel_rfl) | (rw [if_neg (by decide +kernel)]; exact ⟨rfl, rfl⟩))
    (fun os started H enc _ F => by rw [OpenClaim.pre_eq_preRow]; exact lifted os started H enc F)
theorem proved : Rows.DecWordsSaid := over
set_option maxRecDepth 100000 in
theorem plain (f : FuncId) (fn : Func) (hf : Tryd.pinned.checked.prog.funcNamed Rows.decWordsRow.func = some f) (hfn : Tryd.pinned.checked.prog.funcs[f]? = some fn) :
    false = Tryd.pinned.checked.prog.looks [] ∧ ∀ (j : Nat) t, fn.params[j]? = some t → Tryd.pinned.checked.prog.wantsStandIn t = false := by
  obtain rfl : f = 7 := Option.some.inj ((show Tryd.prog.funcNamed Rows.decWordsRow.func = some 7 by kernel_rfl).symm.trans hf) |>.symm
  obtain rfl : fn = Tryd.f7 := (Option.some.inj (Tryd.func7.symm.trans hfn)).symm
  refine ⟨by kernel_rfl, fun j t ht => ?_⟩
  rw [Tryd.params7] at ht
  have hm : t ∈ [5, 5, 5, 24, 24] := by simpa using Array.mem_of_getElem? ht
  have hall : ([5, 5, 5, 24, 24].all fun u => !Tryd.prog.wantsStandIn u) = true := by kernel_rfl
  exact (show Tryd.prog.wantsStandIn t = false by simpa using List.all_eq_true.1 hall t hm)
set_option maxRecDepth 100000 in
/-- the tied card -/
theorem carded : Rows.DecWordsCardSaid :=
  Claim7.holds_tied_plain_at .later [] _ _ _ _ over (fun _ h => by cases h) (by kernel_rfl) (fun _ h => by cases h) decWords_row_tie rfl ⟨rfl, rfl⟩ (by kernel_rfl) rfl plain (by kernel_rfl)
end Go.Proofs.YtjkpgfjnidflhaaDoor.decWords
namespace Go.Proofs.YtjkpgfjnidflhaaDoor
/-- The law, under a short name, for the claim. -/
theorem decWords_holds : Rows.DecWordsCardSaid := decWords.carded
#print axioms decWords_holds
end Go.Proofs.YtjkpgfjnidflhaaDoor
