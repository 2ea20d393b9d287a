import Derived.Below
import Derived.Deep.Draws
import Derived.Deep.AppendLies
import Derived.Maps.AppendAt
import Derived.OwnWalk
import Derived.Laws.BytesArg
import Derived.Laws.MakeOwn
import Derived.Laws.OwnMore
import Derived.Deep.OwnRows
import Derived.Tactics
import Derived.Lib.ConvBytes
import Derived.Laws.Slices
import Derived.WalkKit
import Derived.KernelRfl
import Derived.RowKit3
import Derived.Deep.LoopGhost
import Derived.Deep.QuietTactic
import Derived.BigQuiet
import Derived.WideLaws
import Derived.Deep.DeepCutAuto
import Derived.Deep.CutBlock
import Derived.Deep.RegionHeld3
import Derived.Laws.Rows
import Derived.Lib.AppendStr
import Derived.ArgAppend
import Derived.Laws.IdiomCopy
import Derived.RowKit
import Derived.OrdersHeld
import Derived.Laws.BitsLemmas
import Derived.Laws.StructEq
import Derived.ProofKit
import Derived.Lib.Hide
import Derived.Maps.OwnOps
import Derived.RangeFuncRecord
import Derived.Shelf.LaysM
import Derived.Shelf.Strings.Replace
import Derived.Lib.LaidTab
import Derived.Shelf.Abstract
import Derived.OwnWalkIn
import Derived.WalkSmall
import Derived.Laws.ResultCell
import Derived.Shelf.RegionOpen
import Derived.Deep.RegionWith
import Derived.Test.YtjkpgfjnidflhaaDoorZF0
import Derived.Test.YtjkpgfjnidflhaaDoorYA3
import Derived.Test.YtjkpgfjnidflhaaDoorYA16
import Derived.Test.YtjkpgfjnidflhaaDoorYC20
import Derived.Test.YtjkpgfjnidflhaaDoorYG27FDecEncode
section
namespace Go.Proofs.YtjkpgfjnidflhaaDoor.F
open Go.RowKit Go.Proofs.YtjkpgfjnidflhaaDoorW.PrintWords Go.Proofs.YtjkpgfjnidflhaaDoorW.PrintLast Go.Proofs.YtjkpgfjnidflhaaDoorW.PrintMore
attribute [local go_sem] max2_int min2_int max_two min_two max_three min_three max_four min_four
set_option linter.unusedVariables false
set_option linter.unusedSimpArgs false

attribute [local go_sem high] eqA24
def ferrylaw07_DecWords.j0 : Nat → Bool → ByteArray → Int → Int → Int → Int → Int → ByteArray → Int → Int → Int → Int → Int → Option (Bool)
  | 0, _, _, _, _, _, _, _, _, _, _, _, _, _ => none
  | k + 1, x82, x251000, x251001, x251002, x251003, x251004, x251005, x252000, x252001, x252002, x252003, x252004, x252005 => if x82 = true then (some false) else ((dec_Encode.f x251000 x251001 x251002 x251003 x251004 x251005).bind fun bt256 => ((dec_Encode.f x252000 x252001 x252002 x252003 x252004 x252005).bind fun bt258 => (if bt256.2 = true then (if bt258.2 = true then (if ((bt256.1 == bt258.1) == (x251000.toList == x252000.toList && (x251001 == x252001 && (x251002 == x252002 && (x251003 == x252003 && (x251004 == x252004 && (x251005 == x252005))))))) = true then ((ferrylaw07_awake.f).bind fun t260 => (some t260)) else (some false)) else ((ferrylaw07_awake.f).bind fun t261 => (some t261))) else ((ferrylaw07_awake.f).bind fun t262 => (some t262)))))
def ferrylaw07_DecWords.f (k : Nat) (a0 : Int) (a1 : Int) (a2 : Int) (a3_0 : ByteArray) (a3_1 : Int) (a3_2 : Int) (a3_3 : Int) (a3_4 : Int) (a3_5 : Int) (a4_0 : ByteArray) (a4_1 : Int) (a4_2 : Int) (a4_3 : Int) (a4_4 : Int) (a4_5 : Int) : Option (Bool) := (dec_Encode.f (⟨#[97, 100, 100, 117]⟩ : ByteArray) ((Int.tmod a1 32) % 4294967296) ((Int.tmod a2 32) % 4294967296) ((Int.tmod a0 32) % 4294967296) 0 0).bind fun bt252 => ((dec_Encode.f (⟨#[108, 119]⟩ : ByteArray) ((Int.tmod a1 32) % 4294967296) ((Int.tmod a0 32) % 4294967296) 0 0 ((Int.tmod a2 32) % 4294967296)).bind fun bt254 => (if bt252.2 = true then (if bt254.2 = true then (if bt252.1 = (Go.bits .or .u32 (Go.bits .or .u32 (Go.bits .or .u32 ((((Int.tmod a1 32) % 4294967296) * 2097152) % 4294967296) ((((Int.tmod a2 32) % 4294967296) * 65536) % 4294967296)) ((((Int.tmod a0 32) % 4294967296) * 2048) % 4294967296)) 33) then (ferrylaw07_DecWords.j0 k (bt254.1 != (Go.bits .or .u32 (Go.bits .or .u32 (Go.bits .or .u32 2348810240 ((((Int.tmod a1 32) % 4294967296) * 2097152) % 4294967296)) ((((Int.tmod a0 32) % 4294967296) * 65536) % 4294967296)) ((Int.tmod a2 32) % 4294967296))) a3_0 a3_1 a3_2 a3_3 a3_4 a3_5 a4_0 a4_1 a4_2 a4_3 a4_4 a4_5) else (ferrylaw07_DecWords.j0 k true a3_0 a3_1 a3_2 a3_3 a3_4 a3_5 a4_0 a4_1 a4_2 a4_3 a4_4 a4_5)) else (ferrylaw07_DecWords.j0 k true a3_0 a3_1 a3_2 a3_3 a3_4 a3_5 a4_0 a4_1 a4_2 a4_3 a4_4 a4_5)) else (ferrylaw07_DecWords.j0 k true a3_0 a3_1 a3_2 a3_3 a3_4 a3_5 a4_0 a4_1 a4_2 a4_3 a4_4 a4_5)))
set_option maxHeartbeats 8000000 in
set_option maxRecDepth 100000 in
theorem ferrylaw07_DecWords.calls (k : Nat) (a0 : Int) (a1 : Int) (a2 : Int) (a3_0 : ByteArray) (a3_1 : Int) (a3_2 : Int) (a3_3 : Int) (a3_4 : Int) (a3_5 : Int) (a4_0 : ByteArray) (a4_1 : Int) (a4_2 : Int) (a4_3 : Int) (a4_4 : Int) (a4_5 : Int) (r : Bool) (w : World) (hL : Laid w) (h : ferrylaw07_DecWords.f k a0 a1 a2 a3_0 a3_1 a3_2 a3_3 a3_4 a3_5 a4_0 a4_1 a4_2 a4_3 a4_4 a4_5 = some r) :
    Calls Tryd.prog 7 #[.int .u8 a0, .int .u8 a1, .int .u8 a2, .agg #[.string a3_0, .int .i64 a3_1, .int .i64 a3_2, .int .i64 a3_3, .int .i64 a3_4, .int .u32 a3_5], .agg #[.string a4_0, .int .i64 a4_1, .int .i64 a4_2, .int .i64 a4_3, .int .i64 a4_4, .int .u32 a4_5]] w fun e w' => e = .returned (.bool r) ∧ Below w.heap.size w w' := by
  have hu24 := Tryd.underlying24
  have HB := Aside0.mk (Below.refl w.heap.size w)
  have H : ((dec_Encode.f (⟨#[97, 100, 100, 117]⟩ : ByteArray) ((Int.tmod a1 32) % 4294967296) ((Int.tmod a2 32) % 4294967296) ((Int.tmod a0 32) % 4294967296) 0 0).bind fun bt252 => ((dec_Encode.f (⟨#[108, 119]⟩ : ByteArray) ((Int.tmod a1 32) % 4294967296) ((Int.tmod a0 32) % 4294967296) 0 0 ((Int.tmod a2 32) % 4294967296)).bind fun bt254 => (if bt252.2 = true then (if bt254.2 = true then (if bt252.1 = (Go.bits .or .u32 (Go.bits .or .u32 (Go.bits .or .u32 ((((Int.tmod a1 32) % 4294967296) * 2097152) % 4294967296) ((((Int.tmod a2 32) % 4294967296) * 65536) % 4294967296)) ((((Int.tmod a0 32) % 4294967296) * 2048) % 4294967296)) 33) then (ferrylaw07_DecWords.j0 k (bt254.1 != (Go.bits .or .u32 (Go.bits .or .u32 (Go.bits .or .u32 2348810240 ((((Int.tmod a1 32) % 4294967296) * 2097152) % 4294967296)) ((((Int.tmod a0 32) % 4294967296) * 65536) % 4294967296)) ((Int.tmod a2 32) % 4294967296))) a3_0 a3_1 a3_2 a3_3 a3_4 a3_5 a4_0 a4_1 a4_2 a4_3 a4_4 a4_5) else (ferrylaw07_DecWords.j0 k true a3_0 a3_1 a3_2 a3_3 a3_4 a3_5 a4_0 a4_1 a4_2 a4_3 a4_4 a4_5)) else (ferrylaw07_DecWords.j0 k true a3_0 a3_1 a3_2 a3_3 a3_4 a3_5 a4_0 a4_1 a4_2 a4_3 a4_4 a4_5)) else (ferrylaw07_DecWords.j0 k true a3_0 a3_1 a3_2 a3_3 a3_4 a3_5 a4_0 a4_1 a4_2 a4_3 a4_4 a4_5)))) = some r := h
  clear h
  replace H := Option.bind_eq_some_iff.mp H
  obtain ⟨⟨t252, t253⟩, A60, H⟩ := H
  replace H : ((dec_Encode.f (⟨#[108, 119]⟩ : ByteArray) ((Int.tmod a1 32) % 4294967296) ((Int.tmod a0 32) % 4294967296) 0 0 ((Int.tmod a2 32) % 4294967296)).bind fun bt254 => (if t253 = true then (if bt254.2 = true then (if t252 = (Go.bits .or .u32 (Go.bits .or .u32 (Go.bits .or .u32 ((((Int.tmod a1 32) % 4294967296) * 2097152) % 4294967296) ((((Int.tmod a2 32) % 4294967296) * 65536) % 4294967296)) ((((Int.tmod a0 32) % 4294967296) * 2048) % 4294967296)) 33) then (ferrylaw07_DecWords.j0 k (bt254.1 != (Go.bits .or .u32 (Go.bits .or .u32 (Go.bits .or .u32 2348810240 ((((Int.tmod a1 32) % 4294967296) * 2097152) % 4294967296)) ((((Int.tmod a0 32) % 4294967296) * 65536) % 4294967296)) ((Int.tmod a2 32) % 4294967296))) a3_0 a3_1 a3_2 a3_3 a3_4 a3_5 a4_0 a4_1 a4_2 a4_3 a4_4 a4_5) else (ferrylaw07_DecWords.j0 k true a3_0 a3_1 a3_2 a3_3 a3_4 a3_5 a4_0 a4_1 a4_2 a4_3 a4_4 a4_5)) else (ferrylaw07_DecWords.j0 k true a3_0 a3_1 a3_2 a3_3 a3_4 a3_5 a4_0 a4_1 a4_2 a4_3 a4_4 a4_5)) else (ferrylaw07_DecWords.j0 k true a3_0 a3_1 a3_2 a3_3 a3_4 a3_5 a4_0 a4_1 a4_2 a4_3 a4_4 a4_5))) = some r := H
  have A6 := Aside0.mk A60
  clear A60
  replace H := Option.bind_eq_some_iff.mp H
  obtain ⟨⟨t254, t255⟩, A70, H⟩ := H
  replace H : (if t253 = true then (if t255 = true then (if t252 = (Go.bits .or .u32 (Go.bits .or .u32 (Go.bits .or .u32 ((((Int.tmod a1 32) % 4294967296) * 2097152) % 4294967296) ((((Int.tmod a2 32) % 4294967296) * 65536) % 4294967296)) ((((Int.tmod a0 32) % 4294967296) * 2048) % 4294967296)) 33) then (ferrylaw07_DecWords.j0 k (t254 != (Go.bits .or .u32 (Go.bits .or .u32 (Go.bits .or .u32 2348810240 ((((Int.tmod a1 32) % 4294967296) * 2097152) % 4294967296)) ((((Int.tmod a0 32) % 4294967296) * 65536) % 4294967296)) ((Int.tmod a2 32) % 4294967296))) a3_0 a3_1 a3_2 a3_3 a3_4 a3_5 a4_0 a4_1 a4_2 a4_3 a4_4 a4_5) else (ferrylaw07_DecWords.j0 k true a3_0 a3_1 a3_2 a3_3 a3_4 a3_5 a4_0 a4_1 a4_2 a4_3 a4_4 a4_5)) else (ferrylaw07_DecWords.j0 k true a3_0 a3_1 a3_2 a3_3 a3_4 a3_5 a4_0 a4_1 a4_2 a4_3 a4_4 a4_5)) else (ferrylaw07_DecWords.j0 k true a3_0 a3_1 a3_2 a3_3 a3_4 a3_5 a4_0 a4_1 a4_2 a4_3 a4_4 a4_5)) = some r := H
  have A7 := Aside0.mk A70
  clear A70
  have HC8 := Aside0.mk H
  clear H
  go_enter Tryd.func7, Tryd.ntmps7
  go_upto_region 4 with (first | ((with_reducible refine gate_dst (N := 8) rfl ?_); refine box_event ?hg (N := 8) ?hd (cs := #[.string a3_0, .int .i64 a3_1, .int .i64 a3_2, .int .i64 a3_3, .int .i64 a3_4, .int .u32 a3_5]) (t := 24) ?hr ?_; (case hd => rfl); (case hg => rfl); (case hr => first | (go_simp; done) | (go_simp; rfl)); intro gb250 hg w9 hbox hb; have n0_ := Aside0.mk (below_step (by repeat (first | (with_reducible first | exact HB.out | apply below_alloc | apply pw_below_drewN | apply below_drew1) | exact HB.out)) hb); have n1_ := Aside0.mk (hbox); have n2_ := Aside0.mk ((by rw [hg]; exact (below_size (by repeat (first | (with_reducible first | exact HB.out | apply below_alloc | apply pw_below_drewN | apply below_drew1) | exact HB.out))) : w.heap.size ≤ gb250)); have n3_ := Aside0.mk ((by rw [hg]; exact (below_size (by repeat (first | (with_reducible first | exact HB.out | apply below_alloc | apply pw_below_drewN | apply below_drew1) | exact HB.out))) : w.heap.size ≤ gb250)); clear HB; have HB := n0_; have BK250 := n1_; have GW250 := n2_; have GE250 := n3_; clear n0_ n1_ n2_ n3_; clear hb hbox hg) | ((with_reducible refine gate_dst (N := 9) rfl ?_); refine box_event ?hg (N := 9) ?hd (cs := #[.string a4_0, .int .i64 a4_1, .int .i64 a4_2, .int .i64 a4_3, .int .i64 a4_4, .int .u32 a4_5]) (t := 24) ?hr ?_; (case hd => rfl); (case hg => rfl); (case hr => first | (go_simp; done) | (go_simp; rfl)); intro gb251 hg w10 hbox hb; have n0_ := Aside0.mk (blk_below (g := gb250) (o := .cells #[.string a3_0, .int .i64 a3_1, .int .i64 a3_2, .int .i64 a3_3, .int .i64 a3_4, .int .u32 a3_5] 24 (0, 0)) (by (with_reducible repeat (first | refine blk_drewN ?_ _ | refine blk_drew ?_ | refine blk_alloc ?_ _)); exact BK250.out) hb); have n1_ := Aside0.mk (below_step (by repeat (first | (with_reducible first | exact HB.out | apply below_alloc | apply pw_below_drewN | apply below_drew1 | refine below_set ?_ GE250.out) | exact HB.out)) hb); have n2_ := Aside0.mk (hbox); have n3_ := Aside0.mk ((by rw [hg]; exact (below_size (by repeat (first | (with_reducible first | exact HB.out | apply below_alloc | apply pw_below_drewN | apply below_drew1 | refine below_set ?_ GE250.out) | exact HB.out))) : w.heap.size ≤ gb251)); have n4_ := Aside0.mk ((by rw [hg]; exact (below_size (by repeat (first | (with_reducible first | exact HB.out | apply below_alloc | apply pw_below_drewN | apply below_drew1 | refine below_set ?_ GE250.out) | exact HB.out))) : w.heap.size ≤ gb251)); have n5_ := Aside0.mk ((by rw [hg]; exact Nat.ne_of_lt (blk_lt (g := gb250) (o := .cells #[.string a3_0, .int .i64 a3_1, .int .i64 a3_2, .int .i64 a3_3, .int .i64 a3_4, .int .u32 a3_5] 24 (0, 0)) (by (with_reducible repeat (first | refine blk_drewN ?_ _ | refine blk_drew ?_ | refine blk_alloc ?_ _)); exact BK250.out)) : gb250 ≠ gb251)); have n6_ := Aside0.mk ((by rw [hg]; exact Nat.ne_of_gt (blk_lt (g := gb250) (o := .cells #[.string a3_0, .int .i64 a3_1, .int .i64 a3_2, .int .i64 a3_3, .int .i64 a3_4, .int .u32 a3_5] 24 (0, 0)) (by (with_reducible repeat (first | refine blk_drewN ?_ _ | refine blk_drew ?_ | refine blk_alloc ?_ _)); exact BK250.out)) : gb251 ≠ gb250)); clear BK250; clear HB; have BK250 := n0_; have HB := n1_; have BK251 := n2_; have GW251 := n3_; have GE251 := n4_; have NB250_251 := n5_; have NB251_250 := n6_; clear n0_ n1_ n2_ n3_ n4_ n5_ n6_; clear hb hbox hg) | ((with_reducible refine gate_callee (f := 12) rfl ?_); refine goesL_ (some 39) rfl rfl Tryd.func12 (by kernel_rfl) rfl #[.agg #[.string (⟨#[97, 100, 100, 117]⟩ : ByteArray), .int .i64 ((Int.tmod a1 32) % 4294967296), .int .i64 ((Int.tmod a2 32) % 4294967296), .int .i64 ((Int.tmod a0 32) % 4294967296), .int .i64 0, .int .u32 0]] rfl (by (try simp only [List.map_toArray, List.map_cons, List.map_nil]); first | done | rfl | (simp only [List.length_drop, List.length_take]; rfl)) ?_; (with_reducible refine (dec_Encode.calls (⟨#[97, 100, 100, 117]⟩ : ByteArray) ((Int.tmod a1 32) % 4294967296) ((Int.tmod a2 32) % 4294967296) ((Int.tmod a0 32) % 4294967296) 0 0 t252 t253 _ ?side1 A6.out).mono ?_); (case side1 => first | with_reducible exact hL | exact Laid.below hL (by repeat (first | (with_reducible first | exact HB.out | apply below_alloc | apply pw_below_drewN | apply below_drew1 | refine below_set ?_ GE250.out | refine below_set ?_ GE251.out) | exact HB.out))); rintro e w11 ⟨rfl, hb⟩; refine ⟨_, rfl, ?_⟩; have n0_ := Aside0.mk (blk_below (g := gb250) (o := .cells #[.string a3_0, .int .i64 a3_1, .int .i64 a3_2, .int .i64 a3_3, .int .i64 a3_4, .int .u32 a3_5] 24 (0, 0)) (by (with_reducible repeat (first | refine blk_drewN ?_ _ | refine blk_drew ?_ | refine blk_alloc ?_ _)); exact BK250.out) hb); have n1_ := Aside0.mk (blk_below (g := gb251) (o := .cells #[.string a4_0, .int .i64 a4_1, .int .i64 a4_2, .int .i64 a4_3, .int .i64 a4_4, .int .u32 a4_5] 24 (0, 0)) (by (with_reducible repeat (first | refine blk_drewN ?_ _ | refine blk_drew ?_ | refine blk_alloc ?_ _)); exact BK251.out) hb); have n2_ := Aside0.mk (below_step (by repeat (first | (with_reducible first | exact HB.out | apply below_alloc | apply pw_below_drewN | apply below_drew1 | refine below_set ?_ GE250.out | refine below_set ?_ GE251.out) | exact HB.out)) hb); clear BK250; clear BK251; clear HB; have BK250 := n0_; have BK251 := n1_; have HB := n2_; clear n0_ n1_ n2_; (try clear hb); (try clear hb2); (try clear hk); (try clear hi)) | ((with_reducible refine gate_callee (f := 12) rfl ?_); refine goesL_ (some 49) rfl rfl Tryd.func12 (by kernel_rfl) rfl #[.agg #[.string (⟨#[108, 119]⟩ : ByteArray), .int .i64 ((Int.tmod a1 32) % 4294967296), .int .i64 ((Int.tmod a0 32) % 4294967296), .int .i64 0, .int .i64 0, .int .u32 ((Int.tmod a2 32) % 4294967296)]] rfl (by (try simp only [List.map_toArray, List.map_cons, List.map_nil]); first | done | rfl | (simp only [List.length_drop, List.length_take]; rfl)) ?_; (with_reducible refine (dec_Encode.calls (⟨#[108, 119]⟩ : ByteArray) ((Int.tmod a1 32) % 4294967296) ((Int.tmod a0 32) % 4294967296) 0 0 ((Int.tmod a2 32) % 4294967296) t254 t255 _ ?side1 A7.out).mono ?_); (case side1 => first | with_reducible exact hL | exact Laid.below hL (by repeat (first | (with_reducible first | exact HB.out | apply below_alloc | apply pw_below_drewN | apply below_drew1 | refine below_set ?_ GE250.out | refine below_set ?_ GE251.out) | exact HB.out))); rintro e w12 ⟨rfl, hb⟩; refine ⟨_, rfl, ?_⟩; have n0_ := Aside0.mk (blk_below (g := gb250) (o := .cells #[.string a3_0, .int .i64 a3_1, .int .i64 a3_2, .int .i64 a3_3, .int .i64 a3_4, .int .u32 a3_5] 24 (0, 0)) (by (with_reducible repeat (first | refine blk_drewN ?_ _ | refine blk_drew ?_ | refine blk_alloc ?_ _)); exact BK250.out) hb); have n1_ := Aside0.mk (blk_below (g := gb251) (o := .cells #[.string a4_0, .int .i64 a4_1, .int .i64 a4_2, .int .i64 a4_3, .int .i64 a4_4, .int .u32 a4_5] 24 (0, 0)) (by (with_reducible repeat (first | refine blk_drewN ?_ _ | refine blk_drew ?_ | refine blk_alloc ?_ _)); exact BK251.out) hb); have n2_ := Aside0.mk (below_step (by repeat (first | (with_reducible first | exact HB.out | apply below_alloc | apply pw_below_drewN | apply below_drew1 | refine below_set ?_ GE250.out | refine below_set ?_ GE251.out) | exact HB.out)) hb); clear BK250; clear BK251; clear HB; have BK250 := n0_; have BK251 := n1_; have HB := n2_; clear n0_ n1_ n2_; (try clear hb); (try clear hb2); (try clear hk); (try clear hi)))
  (try simp only [Act.put, List.setIfInBounds_toArray, List.set_cons_zero, List.set_cons_succ])
  go_cut [82] (fun v82 wc => ∃ (kq : Nat) (x82_7 : Bool), v82 = .bool x82_7 ∧ Aside0 (ferrylaw07_DecWords.j0 kq x82_7 a3_0 a3_1 a3_2 a3_3 a3_4 a3_5 a4_0 a4_1 a4_2 a4_3 a4_4 a4_5 = some r) ∧ Aside0 (kq ≤ k) ∧ Aside0 (wc.heap[gb250]? = some (.cells #[.string a3_0, .int .i64 a3_1, .int .i64 a3_2, .int .i64 a3_3, .int .i64 a3_4, .int .u32 a3_5] 24 (0, 0))) ∧ Aside0 (wc.heap[gb251]? = some (.cells #[.string a4_0, .int .i64 a4_1, .int .i64 a4_2, .int .i64 a4_3, .int .i64 a4_4, .int .u32 a4_5] 24 (0, 0))) ∧ Aside0 (Below w.heap.size w wc))
  case first =>
    have H := HC8.out
    clear HC8
    by_cases c13 : t253 = true
    · subst c13
      have H1 : (if t255 = true then (if t252 = (Go.bits .or .u32 (Go.bits .or .u32 (Go.bits .or .u32 ((((Int.tmod a1 32) % 4294967296) * 2097152) % 4294967296) ((((Int.tmod a2 32) % 4294967296) * 65536) % 4294967296)) ((((Int.tmod a0 32) % 4294967296) * 2048) % 4294967296)) 33) then (ferrylaw07_DecWords.j0 k (t254 != (Go.bits .or .u32 (Go.bits .or .u32 (Go.bits .or .u32 2348810240 ((((Int.tmod a1 32) % 4294967296) * 2097152) % 4294967296)) ((((Int.tmod a0 32) % 4294967296) * 65536) % 4294967296)) ((Int.tmod a2 32) % 4294967296))) a3_0 a3_1 a3_2 a3_3 a3_4 a3_5 a4_0 a4_1 a4_2 a4_3 a4_4 a4_5) else (ferrylaw07_DecWords.j0 k true a3_0 a3_1 a3_2 a3_3 a3_4 a3_5 a4_0 a4_1 a4_2 a4_3 a4_4 a4_5)) else (ferrylaw07_DecWords.j0 k true a3_0 a3_1 a3_2 a3_3 a3_4 a3_5 a4_0 a4_1 a4_2 a4_3 a4_4 a4_5)) = some r := by rw [if_pos rfl] at H; exact H
      clear H
      have H := H1
      clear H1
      by_cases c14 : t255 = true
      · subst c14
        have H1 : (if t252 = (Go.bits .or .u32 (Go.bits .or .u32 (Go.bits .or .u32 ((((Int.tmod a1 32) % 4294967296) * 2097152) % 4294967296) ((((Int.tmod a2 32) % 4294967296) * 65536) % 4294967296)) ((((Int.tmod a0 32) % 4294967296) * 2048) % 4294967296)) 33) then (ferrylaw07_DecWords.j0 k (t254 != (Go.bits .or .u32 (Go.bits .or .u32 (Go.bits .or .u32 2348810240 ((((Int.tmod a1 32) % 4294967296) * 2097152) % 4294967296)) ((((Int.tmod a0 32) % 4294967296) * 65536) % 4294967296)) ((Int.tmod a2 32) % 4294967296))) a3_0 a3_1 a3_2 a3_3 a3_4 a3_5 a4_0 a4_1 a4_2 a4_3 a4_4 a4_5) else (ferrylaw07_DecWords.j0 k true a3_0 a3_1 a3_2 a3_3 a3_4 a3_5 a4_0 a4_1 a4_2 a4_3 a4_4 a4_5)) = some r := by rw [if_pos rfl] at H; exact H
        clear H
        have H := H1
        clear H1
        by_cases c15 : t252 = (Go.bits .or .u32 (Go.bits .or .u32 (Go.bits .or .u32 ((((Int.tmod a1 32) % 4294967296) * 2097152) % 4294967296) ((((Int.tmod a2 32) % 4294967296) * 65536) % 4294967296)) ((((Int.tmod a0 32) % 4294967296) * 2048) % 4294967296)) 33)
        · rw [if_pos c15] at H
          have c15b0 : (t252 == (Go.bits .or .u32 (Go.bits .or .u32 (Go.bits .or .u32 ((((Int.tmod a1 32) % 4294967296) * 2097152) % 4294967296) ((((Int.tmod a2 32) % 4294967296) * 65536) % 4294967296)) ((((Int.tmod a0 32) % 4294967296) * 2048) % 4294967296)) 33)) = true := beq_iff_eq.mpr c15
          (try (have c15bs0 := c15b0; simp only [Int.add_emod_emod, Int.emod_add_emod, Int.sub_emod_emod, Int.emod_sub_emod] at c15bs0))
          have c15b1 : (t252 != (Go.bits .or .u32 (Go.bits .or .u32 (Go.bits .or .u32 ((((Int.tmod a1 32) % 4294967296) * 2097152) % 4294967296) ((((Int.tmod a2 32) % 4294967296) * 65536) % 4294967296)) ((((Int.tmod a0 32) % 4294967296) * 2048) % 4294967296)) 33)) = false := bne_eq_false_iff_eq.mpr c15
          (try (have c15bs1 := c15b1; simp only [Int.add_emod_emod, Int.emod_add_emod, Int.sub_emod_emod, Int.emod_sub_emod] at c15bs1))
          clear c15
          (first | rw [c15b0] | (simp only [i64_w, i32_w]; rw [c15b0]) | skip)
          have H' := Aside0.mk H
          clear H
          go_wp2
          go_meet
          case rel => exact ⟨_, ((t254 != (Go.bits .or .u32 (Go.bits .or .u32 (Go.bits .or .u32 2348810240 ((((Int.tmod a1 32) % 4294967296) * 2097152) % 4294967296)) ((((Int.tmod a0 32) % 4294967296) * 65536) % 4294967296)) ((Int.tmod a2 32) % 4294967296)))), (by first | rfl | (simp; done) | (simp [*]; done)), H', ⟨by first | omega | exact Nat.le_refl _⟩, ⟨by (with_reducible repeat (first | refine blk_drewN ?_ _ | refine blk_drew ?_ | refine blk_alloc ?_ _)); exact BK250.out⟩, ⟨by (with_reducible repeat (first | refine blk_drewN ?_ _ | refine blk_drew ?_ | refine blk_alloc ?_ _)); exact BK251.out⟩, ⟨by repeat (first | (with_reducible first | exact HB.out | apply below_alloc | apply pw_below_drewN | apply below_drew1 | refine below_set ?_ GE250.out | refine below_set ?_ GE251.out) | exact HB.out)⟩⟩
        · rw [if_neg c15] at H
          have c15b0 : (t252 == (Go.bits .or .u32 (Go.bits .or .u32 (Go.bits .or .u32 ((((Int.tmod a1 32) % 4294967296) * 2097152) % 4294967296) ((((Int.tmod a2 32) % 4294967296) * 65536) % 4294967296)) ((((Int.tmod a0 32) % 4294967296) * 2048) % 4294967296)) 33)) = false := beq_eq_false_iff_ne.mpr c15
          (try (have c15bs0 := c15b0; simp only [Int.add_emod_emod, Int.emod_add_emod, Int.sub_emod_emod, Int.emod_sub_emod] at c15bs0))
          have c15b1 : (t252 != (Go.bits .or .u32 (Go.bits .or .u32 (Go.bits .or .u32 ((((Int.tmod a1 32) % 4294967296) * 2097152) % 4294967296) ((((Int.tmod a2 32) % 4294967296) * 65536) % 4294967296)) ((((Int.tmod a0 32) % 4294967296) * 2048) % 4294967296)) 33)) = true := bne_iff_ne.mpr c15
          (try (have c15bs1 := c15b1; simp only [Int.add_emod_emod, Int.emod_add_emod, Int.sub_emod_emod, Int.emod_sub_emod] at c15bs1))
          (first | rw [c15b0] | (simp only [i64_w, i32_w]; rw [c15b0]) | skip)
          have H' := Aside0.mk H
          clear H
          go_wp2
          go_meet
          case rel => exact ⟨_, (true), (by first | rfl | (simp; done) | (simp [*]; done)), H', ⟨by first | omega | exact Nat.le_refl _⟩, ⟨by (with_reducible repeat (first | refine blk_drewN ?_ _ | refine blk_drew ?_ | refine blk_alloc ?_ _)); exact BK250.out⟩, ⟨by (with_reducible repeat (first | refine blk_drewN ?_ _ | refine blk_drew ?_ | refine blk_alloc ?_ _)); exact BK251.out⟩, ⟨by repeat (first | (with_reducible first | exact HB.out | apply below_alloc | apply pw_below_drewN | apply below_drew1 | refine below_set ?_ GE250.out | refine below_set ?_ GE251.out) | exact HB.out)⟩⟩
      · replace c14 := Bool.eq_false_iff.mpr c14
        subst c14
        have H1 : (ferrylaw07_DecWords.j0 k true a3_0 a3_1 a3_2 a3_3 a3_4 a3_5 a4_0 a4_1 a4_2 a4_3 a4_4 a4_5) = some r := by rw [if_neg (show ¬ (false = true) by decide)] at H; exact H
        clear H
        have H := H1
        clear H1
        have H' := Aside0.mk H
        clear H
        go_wp2
        go_meet
        case rel => exact ⟨_, (true), (by first | rfl | (simp; done) | (simp [*]; done)), H', ⟨by first | omega | exact Nat.le_refl _⟩, ⟨by (with_reducible repeat (first | refine blk_drewN ?_ _ | refine blk_drew ?_ | refine blk_alloc ?_ _)); exact BK250.out⟩, ⟨by (with_reducible repeat (first | refine blk_drewN ?_ _ | refine blk_drew ?_ | refine blk_alloc ?_ _)); exact BK251.out⟩, ⟨by repeat (first | (with_reducible first | exact HB.out | apply below_alloc | apply pw_below_drewN | apply below_drew1 | refine below_set ?_ GE250.out | refine below_set ?_ GE251.out) | exact HB.out)⟩⟩
    · replace c13 := Bool.eq_false_iff.mpr c13
      subst c13
      have H1 : (ferrylaw07_DecWords.j0 k true a3_0 a3_1 a3_2 a3_3 a3_4 a3_5 a4_0 a4_1 a4_2 a4_3 a4_4 a4_5) = some r := by rw [if_neg (show ¬ (false = true) by decide)] at H; exact H
      clear H
      have H := H1
      clear H1
      have H' := Aside0.mk H
      clear H
      go_wp2
      go_meet
      case rel => exact ⟨_, (true), (by first | rfl | (simp; done) | (simp [*]; done)), H', ⟨by first | omega | exact Nat.le_refl _⟩, ⟨by (with_reducible repeat (first | refine blk_drewN ?_ _ | refine blk_drew ?_ | refine blk_alloc ?_ _)); exact BK250.out⟩, ⟨by (with_reducible repeat (first | refine blk_drewN ?_ _ | refine blk_drew ?_ | refine blk_alloc ?_ _)); exact BK251.out⟩, ⟨by repeat (first | (with_reducible first | exact HB.out | apply below_alloc | apply pw_below_drewN | apply below_drew1 | refine below_set ?_ GE250.out | refine below_set ?_ GE251.out) | exact HB.out)⟩⟩
  case rest =>
    clear HC8
    try clear c1
    try clear p2
    try clear c7
    try clear c12
    try clear c13
    try clear c14
    try clear c15
    try clear c15b0
    try clear c15b1
    obtain ⟨kq, x82_7, rfl, HA, HJ7, BK250, BK251, HB⟩ := hcut
    cases kq with
    | zero => exact absurd HA.out (by simp [ferrylaw07_DecWords.j0])
    | succ kj7 =>
      have H := HA.out
      clear HA
      simp only [ferrylaw07_DecWords.j0] at H
      by_cases c16 : x82_7 = true
      · subst c16
        have H1 : (some false) = some r := by rw [if_pos rfl] at H; exact H
        clear H
        have H := H1
        clear H1
        obtain rfl := Option.some.inj H
        go_wp2
        go_ret
        exact ⟨by first | rfl | (simp [errW_none, errW_some] <;> rfl) | (simp [*, errW_none, errW_some] <;> rfl), by repeat (first | (with_reducible first | exact HB.out | apply below_alloc | apply pw_below_drewN | apply below_drew1 | refine below_set ?_ GE250.out | refine below_set ?_ GE251.out) | exact HB.out)⟩
      · replace c16 := Bool.eq_false_iff.mpr c16
        subst c16
        have H1 : ((dec_Encode.f a3_0 a3_1 a3_2 a3_3 a3_4 a3_5).bind fun bt256 => ((dec_Encode.f a4_0 a4_1 a4_2 a4_3 a4_4 a4_5).bind fun bt258 => (if bt256.2 = true then (if bt258.2 = true then (if ((bt256.1 == bt258.1) == (a3_0.toList == a4_0.toList && (a3_1 == a4_1 && (a3_2 == a4_2 && (a3_3 == a4_3 && (a3_4 == a4_4 && (a3_5 == a4_5))))))) = true then ((ferrylaw07_awake.f).bind fun t260 => (some t260)) else (some false)) else ((ferrylaw07_awake.f).bind fun t261 => (some t261))) else ((ferrylaw07_awake.f).bind fun t262 => (some t262))))) = some r := by rw [if_neg (show ¬ (false = true) by decide)] at H; exact H
        clear H
        have H := H1
        clear H1
        replace H := Option.bind_eq_some_iff.mp H
        obtain ⟨⟨t256, t257⟩, A170, H⟩ := H
        replace H : ((dec_Encode.f a4_0 a4_1 a4_2 a4_3 a4_4 a4_5).bind fun bt258 => (if t257 = true then (if bt258.2 = true then (if ((t256 == bt258.1) == (a3_0.toList == a4_0.toList && (a3_1 == a4_1 && (a3_2 == a4_2 && (a3_3 == a4_3 && (a3_4 == a4_4 && (a3_5 == a4_5))))))) = true then ((ferrylaw07_awake.f).bind fun t260 => (some t260)) else (some false)) else ((ferrylaw07_awake.f).bind fun t261 => (some t261))) else ((ferrylaw07_awake.f).bind fun t262 => (some t262)))) = some r := H
        have A17 := Aside0.mk A170
        clear A170
        replace H := Option.bind_eq_some_iff.mp H
        obtain ⟨⟨t258, t259⟩, A180, H⟩ := H
        replace H : (if t257 = true then (if t259 = true then (if ((t256 == t258) == (a3_0.toList == a4_0.toList && (a3_1 == a4_1 && (a3_2 == a4_2 && (a3_3 == a4_3 && (a3_4 == a4_4 && (a3_5 == a4_5))))))) = true then ((ferrylaw07_awake.f).bind fun t260 => (some t260)) else (some false)) else ((ferrylaw07_awake.f).bind fun t261 => (some t261))) else ((ferrylaw07_awake.f).bind fun t262 => (some t262))) = some r := H
        have A18 := Aside0.mk A180
        clear A180
        by_cases c19 : t257 = true
        · subst c19
          have H1 : (if t259 = true then (if ((t256 == t258) == (a3_0.toList == a4_0.toList && (a3_1 == a4_1 && (a3_2 == a4_2 && (a3_3 == a4_3 && (a3_4 == a4_4 && (a3_5 == a4_5))))))) = true then ((ferrylaw07_awake.f).bind fun t260 => (some t260)) else (some false)) else ((ferrylaw07_awake.f).bind fun t261 => (some t261))) = some r := by rw [if_pos rfl] at H; exact H
          clear H
          have H := H1
          clear H1
          by_cases c20 : t259 = true
          · subst c20
            have H1 : (if ((t256 == t258) == (a3_0.toList == a4_0.toList && (a3_1 == a4_1 && (a3_2 == a4_2 && (a3_3 == a4_3 && (a3_4 == a4_4 && (a3_5 == a4_5))))))) = true then ((ferrylaw07_awake.f).bind fun t260 => (some t260)) else (some false)) = some r := by rw [if_pos rfl] at H; exact H
            clear H
            have H := H1
            clear H1
            by_cases c21 : ((t256 == t258) == (a3_0.toList == a4_0.toList && (a3_1 == a4_1 && (a3_2 == a4_2 && (a3_3 == a4_3 && (a3_4 == a4_4 && (a3_5 == a4_5))))))) = true
            · rw [if_pos c21] at H
              have c21b0 : ((t256 == t258) == (a3_0.toList == a4_0.toList && (a3_1 == a4_1 && (a3_2 == a4_2 && (a3_3 == a4_3 && (a3_4 == a4_4 && (a3_5 == a4_5))))))) = true := c21
              (try (have c21b1 : decide ((t256 == t258) = (a3_0.toList == a4_0.toList && (a3_1 == a4_1 && (a3_2 == a4_2 && (a3_3 == a4_3 && (a3_4 == a4_4 && (a3_5 == a4_5))))))) = true := by simpa using c21))
              (try (have c21b2 : ((t256 == t258) == (a3_0.toList == a4_0.toList && (a3_1 == a4_1 && (a3_2 == a4_2 && (a3_3 == a4_3 && (a3_4 == a4_4 && (a3_5 == a4_5))))))) = true := by simpa using c21))
              clear c21
              replace H := Option.bind_eq_some_iff.mp H
              obtain ⟨t260, A220, H⟩ := H
              replace H : (some t260) = some r := H
              have A22 := Aside0.mk A220
              clear A220
              obtain rfl := Option.some.inj H
              have hnb23 := NB250_251.out
              have hnc23 := NB251_250.out
              have hcz24_0 : wc.cell? ⟨gb250, 0, none⟩ = some (.string a3_0) := (blk_cell BK250.out 0).trans rfl
              have hcz24_1 : wc.cell? ⟨gb250, 1, none⟩ = some (.int .i64 a3_1) := (blk_cell BK250.out 1).trans rfl
              have hcz24_2 : wc.cell? ⟨gb250, 2, none⟩ = some (.int .i64 a3_2) := (blk_cell BK250.out 2).trans rfl
              have hcz24_3 : wc.cell? ⟨gb250, 3, none⟩ = some (.int .i64 a3_3) := (blk_cell BK250.out 3).trans rfl
              have hcz24_4 : wc.cell? ⟨gb250, 4, none⟩ = some (.int .i64 a3_4) := (blk_cell BK250.out 4).trans rfl
              have hcz24_5 : wc.cell? ⟨gb250, 5, none⟩ = some (.int .u32 a3_5) := (blk_cell BK250.out 5).trans rfl
              have hfz24_0 := blk_frozen BK250.out 0
              have hfz24_1 := blk_frozen BK250.out 1
              have hfz24_2 := blk_frozen BK250.out 2
              have hfz24_3 := blk_frozen BK250.out 3
              have hfz24_4 := blk_frozen BK250.out 4
              have hfz24_5 := blk_frozen BK250.out 5
              go_wp2_with (first | ((with_reducible refine gate_callee (f := 12) rfl ?_); refine goesL_ (some 85) rfl rfl Tryd.func12 (by kernel_rfl) rfl #[.agg #[.string a3_0, .int .i64 a3_1, .int .i64 a3_2, .int .i64 a3_3, .int .i64 a3_4, .int .u32 a3_5]] rfl (by (try simp only [List.map_toArray, List.map_cons, List.map_nil]); first | done | rfl | (simp only [List.length_drop, List.length_take]; rfl)) ?_; (with_reducible refine (dec_Encode.calls a3_0 a3_1 a3_2 a3_3 a3_4 a3_5 t256 true _ ?side1 A17.out).mono ?_); (case side1 => first | with_reducible exact hL | exact Laid.below hL (by repeat (first | (with_reducible first | exact HB.out | apply below_alloc | apply pw_below_drewN | apply below_drew1 | refine below_set ?_ GE250.out | refine below_set ?_ GE251.out) | exact HB.out))); rintro e w25 ⟨rfl, hb⟩; refine ⟨_, rfl, ?_⟩; have n0_ := Aside0.mk (blk_below (g := gb250) (o := .cells #[.string a3_0, .int .i64 a3_1, .int .i64 a3_2, .int .i64 a3_3, .int .i64 a3_4, .int .u32 a3_5] 24 (0, 0)) (by (with_reducible repeat (first | refine blk_drewN ?_ _ | refine blk_drew ?_ | refine blk_alloc ?_ _)); exact BK250.out) hb); have n1_ := Aside0.mk (blk_below (g := gb251) (o := .cells #[.string a4_0, .int .i64 a4_1, .int .i64 a4_2, .int .i64 a4_3, .int .i64 a4_4, .int .u32 a4_5] 24 (0, 0)) (by (with_reducible repeat (first | refine blk_drewN ?_ _ | refine blk_drew ?_ | refine blk_alloc ?_ _)); exact BK251.out) hb); have n2_ := Aside0.mk (below_step (by repeat (first | (with_reducible first | exact HB.out | apply below_alloc | apply pw_below_drewN | apply below_drew1 | refine below_set ?_ GE250.out | refine below_set ?_ GE251.out) | exact HB.out)) hb); clear BK250; clear BK251; clear HB; have BK250 := n0_; have BK251 := n1_; have HB := n2_; clear n0_ n1_ n2_; (try clear hb); (try clear hb2); (try clear hk); (try clear hi); have hcz26_0 : w25.cell? ⟨gb251, 0, none⟩ = some (.string a4_0) := (blk_cell BK251.out 0).trans rfl; have hcz26_1 : w25.cell? ⟨gb251, 1, none⟩ = some (.int .i64 a4_1) := (blk_cell BK251.out 1).trans rfl; have hcz26_2 : w25.cell? ⟨gb251, 2, none⟩ = some (.int .i64 a4_2) := (blk_cell BK251.out 2).trans rfl; have hcz26_3 : w25.cell? ⟨gb251, 3, none⟩ = some (.int .i64 a4_3) := (blk_cell BK251.out 3).trans rfl; have hcz26_4 : w25.cell? ⟨gb251, 4, none⟩ = some (.int .i64 a4_4) := (blk_cell BK251.out 4).trans rfl; have hcz26_5 : w25.cell? ⟨gb251, 5, none⟩ = some (.int .u32 a4_5) := (blk_cell BK251.out 5).trans rfl; have hfz26_0 := blk_frozen BK251.out 0; have hfz26_1 := blk_frozen BK251.out 1; have hfz26_2 := blk_frozen BK251.out 2; have hfz26_3 := blk_frozen BK251.out 3; have hfz26_4 := blk_frozen BK251.out 4; have hfz26_5 := blk_frozen BK251.out 5) | ((with_reducible refine gate_callee (f := 12) rfl ?_); refine goesL_ (some 90) rfl rfl Tryd.func12 (by kernel_rfl) rfl #[.agg #[.string a4_0, .int .i64 a4_1, .int .i64 a4_2, .int .i64 a4_3, .int .i64 a4_4, .int .u32 a4_5]] rfl (by (try simp only [List.map_toArray, List.map_cons, List.map_nil]); first | done | rfl | (simp only [List.length_drop, List.length_take]; rfl)) ?_; (with_reducible refine (dec_Encode.calls a4_0 a4_1 a4_2 a4_3 a4_4 a4_5 t258 true _ ?side1 A18.out).mono ?_); (case side1 => first | with_reducible exact hL | exact Laid.below hL (by repeat (first | (with_reducible first | exact HB.out | apply below_alloc | apply pw_below_drewN | apply below_drew1 | refine below_set ?_ GE250.out | refine below_set ?_ GE251.out) | exact HB.out))); rintro e w27 ⟨rfl, hb⟩; refine ⟨_, rfl, ?_⟩; have n0_ := Aside0.mk (blk_below (g := gb250) (o := .cells #[.string a3_0, .int .i64 a3_1, .int .i64 a3_2, .int .i64 a3_3, .int .i64 a3_4, .int .u32 a3_5] 24 (0, 0)) (by (with_reducible repeat (first | refine blk_drewN ?_ _ | refine blk_drew ?_ | refine blk_alloc ?_ _)); exact BK250.out) hb); have n1_ := Aside0.mk (blk_below (g := gb251) (o := .cells #[.string a4_0, .int .i64 a4_1, .int .i64 a4_2, .int .i64 a4_3, .int .i64 a4_4, .int .u32 a4_5] 24 (0, 0)) (by (with_reducible repeat (first | refine blk_drewN ?_ _ | refine blk_drew ?_ | refine blk_alloc ?_ _)); exact BK251.out) hb); have n2_ := Aside0.mk (below_step (by repeat (first | (with_reducible first | exact HB.out | apply below_alloc | apply pw_below_drewN | apply below_drew1 | refine below_set ?_ GE250.out | refine below_set ?_ GE251.out) | exact HB.out)) hb); clear BK250; clear BK251; clear HB; have BK250 := n0_; have BK251 := n1_; have HB := n2_; clear n0_ n1_ n2_; (try clear hb); (try clear hb2); (try clear hk); (try clear hi); have hcz28_0 : w27.cell? ⟨gb250, 0, none⟩ = some (.string a3_0) := (blk_cell BK250.out 0).trans rfl; have hcz28_1 : w27.cell? ⟨gb250, 1, none⟩ = some (.int .i64 a3_1) := (blk_cell BK250.out 1).trans rfl; have hcz28_2 : w27.cell? ⟨gb250, 2, none⟩ = some (.int .i64 a3_2) := (blk_cell BK250.out 2).trans rfl; have hcz28_3 : w27.cell? ⟨gb250, 3, none⟩ = some (.int .i64 a3_3) := (blk_cell BK250.out 3).trans rfl; have hcz28_4 : w27.cell? ⟨gb250, 4, none⟩ = some (.int .i64 a3_4) := (blk_cell BK250.out 4).trans rfl; have hcz28_5 : w27.cell? ⟨gb250, 5, none⟩ = some (.int .u32 a3_5) := (blk_cell BK250.out 5).trans rfl; have hfz28_0 := blk_frozen BK250.out 0; have hfz28_1 := blk_frozen BK250.out 1; have hfz28_2 := blk_frozen BK250.out 2; have hfz28_3 := blk_frozen BK250.out 3; have hfz28_4 := blk_frozen BK250.out 4; have hfz28_5 := blk_frozen BK250.out 5; have hcz29_0 : w27.cell? ⟨gb251, 0, none⟩ = some (.string a4_0) := (blk_cell BK251.out 0).trans rfl; have hcz29_1 : w27.cell? ⟨gb251, 1, none⟩ = some (.int .i64 a4_1) := (blk_cell BK251.out 1).trans rfl; have hcz29_2 : w27.cell? ⟨gb251, 2, none⟩ = some (.int .i64 a4_2) := (blk_cell BK251.out 2).trans rfl; have hcz29_3 : w27.cell? ⟨gb251, 3, none⟩ = some (.int .i64 a4_3) := (blk_cell BK251.out 3).trans rfl; have hcz29_4 : w27.cell? ⟨gb251, 4, none⟩ = some (.int .i64 a4_4) := (blk_cell BK251.out 4).trans rfl; have hcz29_5 : w27.cell? ⟨gb251, 5, none⟩ = some (.int .u32 a4_5) := (blk_cell BK251.out 5).trans rfl; have hfz29_0 := blk_frozen BK251.out 0; have hfz29_1 := blk_frozen BK251.out 1; have hfz29_2 := blk_frozen BK251.out 2; have hfz29_3 := blk_frozen BK251.out 3; have hfz29_4 := blk_frozen BK251.out 4; have hfz29_5 := blk_frozen BK251.out 5) | (go_at_call 10; (with_reducible refine (ferrylaw07_awake.calls  t260 _ ?side1 A22.out).mono ?_); (case side1 => first | with_reducible exact hL | exact Laid.below hL (by repeat (first | (with_reducible first | exact HB.out | apply below_alloc | apply pw_below_drewN | apply below_drew1 | refine below_set ?_ GE250.out | refine below_set ?_ GE251.out) | exact HB.out))); rintro e w30 ⟨rfl, hb⟩; have n0_ := Aside0.mk (blk_below (g := gb250) (o := .cells #[.string a3_0, .int .i64 a3_1, .int .i64 a3_2, .int .i64 a3_3, .int .i64 a3_4, .int .u32 a3_5] 24 (0, 0)) (by (with_reducible repeat (first | refine blk_drewN ?_ _ | refine blk_drew ?_ | refine blk_alloc ?_ _)); exact BK250.out) hb); have n1_ := Aside0.mk (blk_below (g := gb251) (o := .cells #[.string a4_0, .int .i64 a4_1, .int .i64 a4_2, .int .i64 a4_3, .int .i64 a4_4, .int .u32 a4_5] 24 (0, 0)) (by (with_reducible repeat (first | refine blk_drewN ?_ _ | refine blk_drew ?_ | refine blk_alloc ?_ _)); exact BK251.out) hb); have n2_ := Aside0.mk (below_step (by repeat (first | (with_reducible first | exact HB.out | apply below_alloc | apply pw_below_drewN | apply below_drew1 | refine below_set ?_ GE250.out | refine below_set ?_ GE251.out) | exact HB.out)) hb); clear BK250; clear BK251; clear HB; have BK250 := n0_; have BK251 := n1_; have HB := n2_; clear n0_ n1_ n2_; (try clear hb); (try clear hb2); (try clear hk); (try clear hi)))
              go_ret
              exact ⟨by first | rfl | (simp [errW_none, errW_some] <;> rfl) | (simp [*, errW_none, errW_some] <;> rfl), by repeat (first | (with_reducible first | exact HB.out | apply below_alloc | apply pw_below_drewN | apply below_drew1 | refine below_set ?_ GE250.out | refine below_set ?_ GE251.out) | exact HB.out)⟩
            · rw [if_neg c21] at H
              have c21b0 : ((t256 == t258) == (a3_0.toList == a4_0.toList && (a3_1 == a4_1 && (a3_2 == a4_2 && (a3_3 == a4_3 && (a3_4 == a4_4 && (a3_5 == a4_5))))))) = false := by simpa using c21
              (try (have c21b1 : decide ((t256 == t258) = (a3_0.toList == a4_0.toList && (a3_1 == a4_1 && (a3_2 == a4_2 && (a3_3 == a4_3 && (a3_4 == a4_4 && (a3_5 == a4_5))))))) = false := by simpa using c21))
              (try (have c21b2 : ((t256 == t258) == (a3_0.toList == a4_0.toList && (a3_1 == a4_1 && (a3_2 == a4_2 && (a3_3 == a4_3 && (a3_4 == a4_4 && (a3_5 == a4_5))))))) = false := by simpa using c21))
              (try (have c21b3 : ¬ ((t256 == t258) = (a3_0.toList == a4_0.toList && (a3_1 == a4_1 && (a3_2 == a4_2 && (a3_3 == a4_3 && (a3_4 == a4_4 && (a3_5 == a4_5))))))) := by simpa using c21))
              clear c21
              obtain rfl := Option.some.inj H
              have hnb31 := NB250_251.out
              have hnc31 := NB251_250.out
              have hcz32_0 : wc.cell? ⟨gb250, 0, none⟩ = some (.string a3_0) := (blk_cell BK250.out 0).trans rfl
              have hcz32_1 : wc.cell? ⟨gb250, 1, none⟩ = some (.int .i64 a3_1) := (blk_cell BK250.out 1).trans rfl
              have hcz32_2 : wc.cell? ⟨gb250, 2, none⟩ = some (.int .i64 a3_2) := (blk_cell BK250.out 2).trans rfl
              have hcz32_3 : wc.cell? ⟨gb250, 3, none⟩ = some (.int .i64 a3_3) := (blk_cell BK250.out 3).trans rfl
              have hcz32_4 : wc.cell? ⟨gb250, 4, none⟩ = some (.int .i64 a3_4) := (blk_cell BK250.out 4).trans rfl
              have hcz32_5 : wc.cell? ⟨gb250, 5, none⟩ = some (.int .u32 a3_5) := (blk_cell BK250.out 5).trans rfl
              have hfz32_0 := blk_frozen BK250.out 0
              have hfz32_1 := blk_frozen BK250.out 1
              have hfz32_2 := blk_frozen BK250.out 2
              have hfz32_3 := blk_frozen BK250.out 3
              have hfz32_4 := blk_frozen BK250.out 4
              have hfz32_5 := blk_frozen BK250.out 5
              go_wp2_with (first | ((with_reducible refine gate_callee (f := 12) rfl ?_); refine goesL_ (some 85) rfl rfl Tryd.func12 (by kernel_rfl) rfl #[.agg #[.string a3_0, .int .i64 a3_1, .int .i64 a3_2, .int .i64 a3_3, .int .i64 a3_4, .int .u32 a3_5]] rfl (by (try simp only [List.map_toArray, List.map_cons, List.map_nil]); first | done | rfl | (simp only [List.length_drop, List.length_take]; rfl)) ?_; (with_reducible refine (dec_Encode.calls a3_0 a3_1 a3_2 a3_3 a3_4 a3_5 t256 true _ ?side1 A17.out).mono ?_); (case side1 => first | with_reducible exact hL | exact Laid.below hL (by repeat (first | (with_reducible first | exact HB.out | apply below_alloc | apply pw_below_drewN | apply below_drew1 | refine below_set ?_ GE250.out | refine below_set ?_ GE251.out) | exact HB.out))); rintro e w33 ⟨rfl, hb⟩; refine ⟨_, rfl, ?_⟩; have n0_ := Aside0.mk (blk_below (g := gb250) (o := .cells #[.string a3_0, .int .i64 a3_1, .int .i64 a3_2, .int .i64 a3_3, .int .i64 a3_4, .int .u32 a3_5] 24 (0, 0)) (by (with_reducible repeat (first | refine blk_drewN ?_ _ | refine blk_drew ?_ | refine blk_alloc ?_ _)); exact BK250.out) hb); have n1_ := Aside0.mk (blk_below (g := gb251) (o := .cells #[.string a4_0, .int .i64 a4_1, .int .i64 a4_2, .int .i64 a4_3, .int .i64 a4_4, .int .u32 a4_5] 24 (0, 0)) (by (with_reducible repeat (first | refine blk_drewN ?_ _ | refine blk_drew ?_ | refine blk_alloc ?_ _)); exact BK251.out) hb); have n2_ := Aside0.mk (below_step (by repeat (first | (with_reducible first | exact HB.out | apply below_alloc | apply pw_below_drewN | apply below_drew1 | refine below_set ?_ GE250.out | refine below_set ?_ GE251.out) | exact HB.out)) hb); clear BK250; clear BK251; clear HB; have BK250 := n0_; have BK251 := n1_; have HB := n2_; clear n0_ n1_ n2_; (try clear hb); (try clear hb2); (try clear hk); (try clear hi); have hcz34_0 : w33.cell? ⟨gb251, 0, none⟩ = some (.string a4_0) := (blk_cell BK251.out 0).trans rfl; have hcz34_1 : w33.cell? ⟨gb251, 1, none⟩ = some (.int .i64 a4_1) := (blk_cell BK251.out 1).trans rfl; have hcz34_2 : w33.cell? ⟨gb251, 2, none⟩ = some (.int .i64 a4_2) := (blk_cell BK251.out 2).trans rfl; have hcz34_3 : w33.cell? ⟨gb251, 3, none⟩ = some (.int .i64 a4_3) := (blk_cell BK251.out 3).trans rfl; have hcz34_4 : w33.cell? ⟨gb251, 4, none⟩ = some (.int .i64 a4_4) := (blk_cell BK251.out 4).trans rfl; have hcz34_5 : w33.cell? ⟨gb251, 5, none⟩ = some (.int .u32 a4_5) := (blk_cell BK251.out 5).trans rfl; have hfz34_0 := blk_frozen BK251.out 0; have hfz34_1 := blk_frozen BK251.out 1; have hfz34_2 := blk_frozen BK251.out 2; have hfz34_3 := blk_frozen BK251.out 3; have hfz34_4 := blk_frozen BK251.out 4; have hfz34_5 := blk_frozen BK251.out 5) | ((with_reducible refine gate_callee (f := 12) rfl ?_); refine goesL_ (some 90) rfl rfl Tryd.func12 (by kernel_rfl) rfl #[.agg #[.string a4_0, .int .i64 a4_1, .int .i64 a4_2, .int .i64 a4_3, .int .i64 a4_4, .int .u32 a4_5]] rfl (by (try simp only [List.map_toArray, List.map_cons, List.map_nil]); first | done | rfl | (simp only [List.length_drop, List.length_take]; rfl)) ?_; (with_reducible refine (dec_Encode.calls a4_0 a4_1 a4_2 a4_3 a4_4 a4_5 t258 true _ ?side1 A18.out).mono ?_); (case side1 => first | with_reducible exact hL | exact Laid.below hL (by repeat (first | (with_reducible first | exact HB.out | apply below_alloc | apply pw_below_drewN | apply below_drew1 | refine below_set ?_ GE250.out | refine below_set ?_ GE251.out) | exact HB.out))); rintro e w35 ⟨rfl, hb⟩; refine ⟨_, rfl, ?_⟩; have n0_ := Aside0.mk (blk_below (g := gb250) (o := .cells #[.string a3_0, .int .i64 a3_1, .int .i64 a3_2, .int .i64 a3_3, .int .i64 a3_4, .int .u32 a3_5] 24 (0, 0)) (by (with_reducible repeat (first | refine blk_drewN ?_ _ | refine blk_drew ?_ | refine blk_alloc ?_ _)); exact BK250.out) hb); have n1_ := Aside0.mk (blk_below (g := gb251) (o := .cells #[.string a4_0, .int .i64 a4_1, .int .i64 a4_2, .int .i64 a4_3, .int .i64 a4_4, .int .u32 a4_5] 24 (0, 0)) (by (with_reducible repeat (first | refine blk_drewN ?_ _ | refine blk_drew ?_ | refine blk_alloc ?_ _)); exact BK251.out) hb); have n2_ := Aside0.mk (below_step (by repeat (first | (with_reducible first | exact HB.out | apply below_alloc | apply pw_below_drewN | apply below_drew1 | refine below_set ?_ GE250.out | refine below_set ?_ GE251.out) | exact HB.out)) hb); clear BK250; clear BK251; clear HB; have BK250 := n0_; have BK251 := n1_; have HB := n2_; clear n0_ n1_ n2_; (try clear hb); (try clear hb2); (try clear hk); (try clear hi); have hcz36_0 : w35.cell? ⟨gb250, 0, none⟩ = some (.string a3_0) := (blk_cell BK250.out 0).trans rfl; have hcz36_1 : w35.cell? ⟨gb250, 1, none⟩ = some (.int .i64 a3_1) := (blk_cell BK250.out 1).trans rfl; have hcz36_2 : w35.cell? ⟨gb250, 2, none⟩ = some (.int .i64 a3_2) := (blk_cell BK250.out 2).trans rfl; have hcz36_3 : w35.cell? ⟨gb250, 3, none⟩ = some (.int .i64 a3_3) := (blk_cell BK250.out 3).trans rfl; have hcz36_4 : w35.cell? ⟨gb250, 4, none⟩ = some (.int .i64 a3_4) := (blk_cell BK250.out 4).trans rfl; have hcz36_5 : w35.cell? ⟨gb250, 5, none⟩ = some (.int .u32 a3_5) := (blk_cell BK250.out 5).trans rfl; have hfz36_0 := blk_frozen BK250.out 0; have hfz36_1 := blk_frozen BK250.out 1; have hfz36_2 := blk_frozen BK250.out 2; have hfz36_3 := blk_frozen BK250.out 3; have hfz36_4 := blk_frozen BK250.out 4; have hfz36_5 := blk_frozen BK250.out 5; have hcz37_0 : w35.cell? ⟨gb251, 0, none⟩ = some (.string a4_0) := (blk_cell BK251.out 0).trans rfl; have hcz37_1 : w35.cell? ⟨gb251, 1, none⟩ = some (.int .i64 a4_1) := (blk_cell BK251.out 1).trans rfl; have hcz37_2 : w35.cell? ⟨gb251, 2, none⟩ = some (.int .i64 a4_2) := (blk_cell BK251.out 2).trans rfl; have hcz37_3 : w35.cell? ⟨gb251, 3, none⟩ = some (.int .i64 a4_3) := (blk_cell BK251.out 3).trans rfl; have hcz37_4 : w35.cell? ⟨gb251, 4, none⟩ = some (.int .i64 a4_4) := (blk_cell BK251.out 4).trans rfl; have hcz37_5 : w35.cell? ⟨gb251, 5, none⟩ = some (.int .u32 a4_5) := (blk_cell BK251.out 5).trans rfl; have hfz37_0 := blk_frozen BK251.out 0; have hfz37_1 := blk_frozen BK251.out 1; have hfz37_2 := blk_frozen BK251.out 2; have hfz37_3 := blk_frozen BK251.out 3; have hfz37_4 := blk_frozen BK251.out 4; have hfz37_5 := blk_frozen BK251.out 5))
              go_ret
              exact ⟨by first | rfl | (simp [errW_none, errW_some] <;> rfl) | (simp [*, errW_none, errW_some] <;> rfl), by repeat (first | (with_reducible first | exact HB.out | apply below_alloc | apply pw_below_drewN | apply below_drew1 | refine below_set ?_ GE250.out | refine below_set ?_ GE251.out) | exact HB.out)⟩
          · replace c20 := Bool.eq_false_iff.mpr c20
            subst c20
            have H1 : ((ferrylaw07_awake.f).bind fun t261 => (some t261)) = some r := by rw [if_neg (show ¬ (false = true) by decide)] at H; exact H
            clear H
            have H := H1
            clear H1
            replace H := Option.bind_eq_some_iff.mp H
            obtain ⟨t261, A380, H⟩ := H
            replace H : (some t261) = some r := H
            have A38 := Aside0.mk A380
            clear A380
            obtain rfl := Option.some.inj H
            have hnb39 := NB250_251.out
            have hnc39 := NB251_250.out
            have hcz40_0 : wc.cell? ⟨gb250, 0, none⟩ = some (.string a3_0) := (blk_cell BK250.out 0).trans rfl
            have hcz40_1 : wc.cell? ⟨gb250, 1, none⟩ = some (.int .i64 a3_1) := (blk_cell BK250.out 1).trans rfl
            have hcz40_2 : wc.cell? ⟨gb250, 2, none⟩ = some (.int .i64 a3_2) := (blk_cell BK250.out 2).trans rfl
            have hcz40_3 : wc.cell? ⟨gb250, 3, none⟩ = some (.int .i64 a3_3) := (blk_cell BK250.out 3).trans rfl
            have hcz40_4 : wc.cell? ⟨gb250, 4, none⟩ = some (.int .i64 a3_4) := (blk_cell BK250.out 4).trans rfl
            have hcz40_5 : wc.cell? ⟨gb250, 5, none⟩ = some (.int .u32 a3_5) := (blk_cell BK250.out 5).trans rfl
            have hfz40_0 := blk_frozen BK250.out 0
            have hfz40_1 := blk_frozen BK250.out 1
            have hfz40_2 := blk_frozen BK250.out 2
            have hfz40_3 := blk_frozen BK250.out 3
            have hfz40_4 := blk_frozen BK250.out 4
            have hfz40_5 := blk_frozen BK250.out 5
            go_wp2_with (first | ((with_reducible refine gate_callee (f := 12) rfl ?_); refine goesL_ (some 85) rfl rfl Tryd.func12 (by kernel_rfl) rfl #[.agg #[.string a3_0, .int .i64 a3_1, .int .i64 a3_2, .int .i64 a3_3, .int .i64 a3_4, .int .u32 a3_5]] rfl (by (try simp only [List.map_toArray, List.map_cons, List.map_nil]); first | done | rfl | (simp only [List.length_drop, List.length_take]; rfl)) ?_; (with_reducible refine (dec_Encode.calls a3_0 a3_1 a3_2 a3_3 a3_4 a3_5 t256 true _ ?side1 A17.out).mono ?_); (case side1 => first | with_reducible exact hL | exact Laid.below hL (by repeat (first | (with_reducible first | exact HB.out | apply below_alloc | apply pw_below_drewN | apply below_drew1 | refine below_set ?_ GE250.out | refine below_set ?_ GE251.out) | exact HB.out))); rintro e w41 ⟨rfl, hb⟩; refine ⟨_, rfl, ?_⟩; have n0_ := Aside0.mk (blk_below (g := gb250) (o := .cells #[.string a3_0, .int .i64 a3_1, .int .i64 a3_2, .int .i64 a3_3, .int .i64 a3_4, .int .u32 a3_5] 24 (0, 0)) (by (with_reducible repeat (first | refine blk_drewN ?_ _ | refine blk_drew ?_ | refine blk_alloc ?_ _)); exact BK250.out) hb); have n1_ := Aside0.mk (blk_below (g := gb251) (o := .cells #[.string a4_0, .int .i64 a4_1, .int .i64 a4_2, .int .i64 a4_3, .int .i64 a4_4, .int .u32 a4_5] 24 (0, 0)) (by (with_reducible repeat (first | refine blk_drewN ?_ _ | refine blk_drew ?_ | refine blk_alloc ?_ _)); exact BK251.out) hb); have n2_ := Aside0.mk (below_step (by repeat (first | (with_reducible first | exact HB.out | apply below_alloc | apply pw_below_drewN | apply below_drew1 | refine below_set ?_ GE250.out | refine below_set ?_ GE251.out) | exact HB.out)) hb); clear BK250; clear BK251; clear HB; have BK250 := n0_; have BK251 := n1_; have HB := n2_; clear n0_ n1_ n2_; (try clear hb); (try clear hb2); (try clear hk); (try clear hi); have hcz42_0 : w41.cell? ⟨gb251, 0, none⟩ = some (.string a4_0) := (blk_cell BK251.out 0).trans rfl; have hcz42_1 : w41.cell? ⟨gb251, 1, none⟩ = some (.int .i64 a4_1) := (blk_cell BK251.out 1).trans rfl; have hcz42_2 : w41.cell? ⟨gb251, 2, none⟩ = some (.int .i64 a4_2) := (blk_cell BK251.out 2).trans rfl; have hcz42_3 : w41.cell? ⟨gb251, 3, none⟩ = some (.int .i64 a4_3) := (blk_cell BK251.out 3).trans rfl; have hcz42_4 : w41.cell? ⟨gb251, 4, none⟩ = some (.int .i64 a4_4) := (blk_cell BK251.out 4).trans rfl; have hcz42_5 : w41.cell? ⟨gb251, 5, none⟩ = some (.int .u32 a4_5) := (blk_cell BK251.out 5).trans rfl; have hfz42_0 := blk_frozen BK251.out 0; have hfz42_1 := blk_frozen BK251.out 1; have hfz42_2 := blk_frozen BK251.out 2; have hfz42_3 := blk_frozen BK251.out 3; have hfz42_4 := blk_frozen BK251.out 4; have hfz42_5 := blk_frozen BK251.out 5) | ((with_reducible refine gate_callee (f := 12) rfl ?_); refine goesL_ (some 90) rfl rfl Tryd.func12 (by kernel_rfl) rfl #[.agg #[.string a4_0, .int .i64 a4_1, .int .i64 a4_2, .int .i64 a4_3, .int .i64 a4_4, .int .u32 a4_5]] rfl (by (try simp only [List.map_toArray, List.map_cons, List.map_nil]); first | done | rfl | (simp only [List.length_drop, List.length_take]; rfl)) ?_; (with_reducible refine (dec_Encode.calls a4_0 a4_1 a4_2 a4_3 a4_4 a4_5 t258 false _ ?side1 A18.out).mono ?_); (case side1 => first | with_reducible exact hL | exact Laid.below hL (by repeat (first | (with_reducible first | exact HB.out | apply below_alloc | apply pw_below_drewN | apply below_drew1 | refine below_set ?_ GE250.out | refine below_set ?_ GE251.out) | exact HB.out))); rintro e w43 ⟨rfl, hb⟩; refine ⟨_, rfl, ?_⟩; have n0_ := Aside0.mk (blk_below (g := gb250) (o := .cells #[.string a3_0, .int .i64 a3_1, .int .i64 a3_2, .int .i64 a3_3, .int .i64 a3_4, .int .u32 a3_5] 24 (0, 0)) (by (with_reducible repeat (first | refine blk_drewN ?_ _ | refine blk_drew ?_ | refine blk_alloc ?_ _)); exact BK250.out) hb); have n1_ := Aside0.mk (blk_below (g := gb251) (o := .cells #[.string a4_0, .int .i64 a4_1, .int .i64 a4_2, .int .i64 a4_3, .int .i64 a4_4, .int .u32 a4_5] 24 (0, 0)) (by (with_reducible repeat (first | refine blk_drewN ?_ _ | refine blk_drew ?_ | refine blk_alloc ?_ _)); exact BK251.out) hb); have n2_ := Aside0.mk (below_step (by repeat (first | (with_reducible first | exact HB.out | apply below_alloc | apply pw_below_drewN | apply below_drew1 | refine below_set ?_ GE250.out | refine below_set ?_ GE251.out) | exact HB.out)) hb); clear BK250; clear BK251; clear HB; have BK250 := n0_; have BK251 := n1_; have HB := n2_; clear n0_ n1_ n2_; (try clear hb); (try clear hb2); (try clear hk); (try clear hi)) | (go_at_call 10; (with_reducible refine (ferrylaw07_awake.calls  t261 _ ?side1 A38.out).mono ?_); (case side1 => first | with_reducible exact hL | exact Laid.below hL (by repeat (first | (with_reducible first | exact HB.out | apply below_alloc | apply pw_below_drewN | apply below_drew1 | refine below_set ?_ GE250.out | refine below_set ?_ GE251.out) | exact HB.out))); rintro e w44 ⟨rfl, hb⟩; have n0_ := Aside0.mk (blk_below (g := gb250) (o := .cells #[.string a3_0, .int .i64 a3_1, .int .i64 a3_2, .int .i64 a3_3, .int .i64 a3_4, .int .u32 a3_5] 24 (0, 0)) (by (with_reducible repeat (first | refine blk_drewN ?_ _ | refine blk_drew ?_ | refine blk_alloc ?_ _)); exact BK250.out) hb); have n1_ := Aside0.mk (blk_below (g := gb251) (o := .cells #[.string a4_0, .int .i64 a4_1, .int .i64 a4_2, .int .i64 a4_3, .int .i64 a4_4, .int .u32 a4_5] 24 (0, 0)) (by (with_reducible repeat (first | refine blk_drewN ?_ _ | refine blk_drew ?_ | refine blk_alloc ?_ _)); exact BK251.out) hb); have n2_ := Aside0.mk (below_step (by repeat (first | (with_reducible first | exact HB.out | apply below_alloc | apply pw_below_drewN | apply below_drew1 | refine below_set ?_ GE250.out | refine below_set ?_ GE251.out) | exact HB.out)) hb); clear BK250; clear BK251; clear HB; have BK250 := n0_; have BK251 := n1_; have HB := n2_; clear n0_ n1_ n2_; (try clear hb); (try clear hb2); (try clear hk); (try clear hi)))
            go_ret
            exact ⟨by first | rfl | (simp [errW_none, errW_some] <;> rfl) | (simp [*, errW_none, errW_some] <;> rfl), by repeat (first | (with_reducible first | exact HB.out | apply below_alloc | apply pw_below_drewN | apply below_drew1 | refine below_set ?_ GE250.out | refine below_set ?_ GE251.out) | exact HB.out)⟩
        · replace c19 := Bool.eq_false_iff.mpr c19
          subst c19
          have H1 : ((ferrylaw07_awake.f).bind fun t262 => (some t262)) = some r := by rw [if_neg (show ¬ (false = true) by decide)] at H; exact H
          clear H
          have H := H1
          clear H1
          replace H := Option.bind_eq_some_iff.mp H
          obtain ⟨t262, A450, H⟩ := H
          replace H : (some t262) = some r := H
          have A45 := Aside0.mk A450
          clear A450
          obtain rfl := Option.some.inj H
          have hnb46 := NB250_251.out
          have hnc46 := NB251_250.out
          have hcz47_0 : wc.cell? ⟨gb250, 0, none⟩ = some (.string a3_0) := (blk_cell BK250.out 0).trans rfl
          have hcz47_1 : wc.cell? ⟨gb250, 1, none⟩ = some (.int .i64 a3_1) := (blk_cell BK250.out 1).trans rfl
          have hcz47_2 : wc.cell? ⟨gb250, 2, none⟩ = some (.int .i64 a3_2) := (blk_cell BK250.out 2).trans rfl
          have hcz47_3 : wc.cell? ⟨gb250, 3, none⟩ = some (.int .i64 a3_3) := (blk_cell BK250.out 3).trans rfl
          have hcz47_4 : wc.cell? ⟨gb250, 4, none⟩ = some (.int .i64 a3_4) := (blk_cell BK250.out 4).trans rfl
          have hcz47_5 : wc.cell? ⟨gb250, 5, none⟩ = some (.int .u32 a3_5) := (blk_cell BK250.out 5).trans rfl
          have hfz47_0 := blk_frozen BK250.out 0
          have hfz47_1 := blk_frozen BK250.out 1
          have hfz47_2 := blk_frozen BK250.out 2
          have hfz47_3 := blk_frozen BK250.out 3
          have hfz47_4 := blk_frozen BK250.out 4
          have hfz47_5 := blk_frozen BK250.out 5
          go_wp2_with (first | ((with_reducible refine gate_callee (f := 12) rfl ?_); refine goesL_ (some 85) rfl rfl Tryd.func12 (by kernel_rfl) rfl #[.agg #[.string a3_0, .int .i64 a3_1, .int .i64 a3_2, .int .i64 a3_3, .int .i64 a3_4, .int .u32 a3_5]] rfl (by (try simp only [List.map_toArray, List.map_cons, List.map_nil]); first | done | rfl | (simp only [List.length_drop, List.length_take]; rfl)) ?_; (with_reducible refine (dec_Encode.calls a3_0 a3_1 a3_2 a3_3 a3_4 a3_5 t256 false _ ?side1 A17.out).mono ?_); (case side1 => first | with_reducible exact hL | exact Laid.below hL (by repeat (first | (with_reducible first | exact HB.out | apply below_alloc | apply pw_below_drewN | apply below_drew1 | refine below_set ?_ GE250.out | refine below_set ?_ GE251.out) | exact HB.out))); rintro e w48 ⟨rfl, hb⟩; refine ⟨_, rfl, ?_⟩; have n0_ := Aside0.mk (blk_below (g := gb250) (o := .cells #[.string a3_0, .int .i64 a3_1, .int .i64 a3_2, .int .i64 a3_3, .int .i64 a3_4, .int .u32 a3_5] 24 (0, 0)) (by (with_reducible repeat (first | refine blk_drewN ?_ _ | refine blk_drew ?_ | refine blk_alloc ?_ _)); exact BK250.out) hb); have n1_ := Aside0.mk (blk_below (g := gb251) (o := .cells #[.string a4_0, .int .i64 a4_1, .int .i64 a4_2, .int .i64 a4_3, .int .i64 a4_4, .int .u32 a4_5] 24 (0, 0)) (by (with_reducible repeat (first | refine blk_drewN ?_ _ | refine blk_drew ?_ | refine blk_alloc ?_ _)); exact BK251.out) hb); have n2_ := Aside0.mk (below_step (by repeat (first | (with_reducible first | exact HB.out | apply below_alloc | apply pw_below_drewN | apply below_drew1 | refine below_set ?_ GE250.out | refine below_set ?_ GE251.out) | exact HB.out)) hb); clear BK250; clear BK251; clear HB; have BK250 := n0_; have BK251 := n1_; have HB := n2_; clear n0_ n1_ n2_; (try clear hb); (try clear hb2); (try clear hk); (try clear hi); have hcz49_0 : w48.cell? ⟨gb251, 0, none⟩ = some (.string a4_0) := (blk_cell BK251.out 0).trans rfl; have hcz49_1 : w48.cell? ⟨gb251, 1, none⟩ = some (.int .i64 a4_1) := (blk_cell BK251.out 1).trans rfl; have hcz49_2 : w48.cell? ⟨gb251, 2, none⟩ = some (.int .i64 a4_2) := (blk_cell BK251.out 2).trans rfl; have hcz49_3 : w48.cell? ⟨gb251, 3, none⟩ = some (.int .i64 a4_3) := (blk_cell BK251.out 3).trans rfl; have hcz49_4 : w48.cell? ⟨gb251, 4, none⟩ = some (.int .i64 a4_4) := (blk_cell BK251.out 4).trans rfl; have hcz49_5 : w48.cell? ⟨gb251, 5, none⟩ = some (.int .u32 a4_5) := (blk_cell BK251.out 5).trans rfl; have hfz49_0 := blk_frozen BK251.out 0; have hfz49_1 := blk_frozen BK251.out 1; have hfz49_2 := blk_frozen BK251.out 2; have hfz49_3 := blk_frozen BK251.out 3; have hfz49_4 := blk_frozen BK251.out 4; have hfz49_5 := blk_frozen BK251.out 5) | ((with_reducible refine gate_callee (f := 12) rfl ?_); refine goesL_ (some 90) rfl rfl Tryd.func12 (by kernel_rfl) rfl #[.agg #[.string a4_0, .int .i64 a4_1, .int .i64 a4_2, .int .i64 a4_3, .int .i64 a4_4, .int .u32 a4_5]] rfl (by (try simp only [List.map_toArray, List.map_cons, List.map_nil]); first | done | rfl | (simp only [List.length_drop, List.length_take]; rfl)) ?_; (with_reducible refine (dec_Encode.calls a4_0 a4_1 a4_2 a4_3 a4_4 a4_5 t258 t259 _ ?side1 A18.out).mono ?_); (case side1 => first | with_reducible exact hL | exact Laid.below hL (by repeat (first | (with_reducible first | exact HB.out | apply below_alloc | apply pw_below_drewN | apply below_drew1 | refine below_set ?_ GE250.out | refine below_set ?_ GE251.out) | exact HB.out))); rintro e w50 ⟨rfl, hb⟩; refine ⟨_, rfl, ?_⟩; have n0_ := Aside0.mk (blk_below (g := gb250) (o := .cells #[.string a3_0, .int .i64 a3_1, .int .i64 a3_2, .int .i64 a3_3, .int .i64 a3_4, .int .u32 a3_5] 24 (0, 0)) (by (with_reducible repeat (first | refine blk_drewN ?_ _ | refine blk_drew ?_ | refine blk_alloc ?_ _)); exact BK250.out) hb); have n1_ := Aside0.mk (blk_below (g := gb251) (o := .cells #[.string a4_0, .int .i64 a4_1, .int .i64 a4_2, .int .i64 a4_3, .int .i64 a4_4, .int .u32 a4_5] 24 (0, 0)) (by (with_reducible repeat (first | refine blk_drewN ?_ _ | refine blk_drew ?_ | refine blk_alloc ?_ _)); exact BK251.out) hb); have n2_ := Aside0.mk (below_step (by repeat (first | (with_reducible first | exact HB.out | apply below_alloc | apply pw_below_drewN | apply below_drew1 | refine below_set ?_ GE250.out | refine below_set ?_ GE251.out) | exact HB.out)) hb); clear BK250; clear BK251; clear HB; have BK250 := n0_; have BK251 := n1_; have HB := n2_; clear n0_ n1_ n2_; (try clear hb); (try clear hb2); (try clear hk); (try clear hi)) | (go_at_call 10; (with_reducible refine (ferrylaw07_awake.calls  t262 _ ?side1 A45.out).mono ?_); (case side1 => first | with_reducible exact hL | exact Laid.below hL (by repeat (first | (with_reducible first | exact HB.out | apply below_alloc | apply pw_below_drewN | apply below_drew1 | refine below_set ?_ GE250.out | refine below_set ?_ GE251.out) | exact HB.out))); rintro e w51 ⟨rfl, hb⟩; have n0_ := Aside0.mk (blk_below (g := gb250) (o := .cells #[.string a3_0, .int .i64 a3_1, .int .i64 a3_2, .int .i64 a3_3, .int .i64 a3_4, .int .u32 a3_5] 24 (0, 0)) (by (with_reducible repeat (first | refine blk_drewN ?_ _ | refine blk_drew ?_ | refine blk_alloc ?_ _)); exact BK250.out) hb); have n1_ := Aside0.mk (blk_below (g := gb251) (o := .cells #[.string a4_0, .int .i64 a4_1, .int .i64 a4_2, .int .i64 a4_3, .int .i64 a4_4, .int .u32 a4_5] 24 (0, 0)) (by (with_reducible repeat (first | refine blk_drewN ?_ _ | refine blk_drew ?_ | refine blk_alloc ?_ _)); exact BK251.out) hb); have n2_ := Aside0.mk (below_step (by repeat (first | (with_reducible first | exact HB.out | apply below_alloc | apply pw_below_drewN | apply below_drew1 | refine below_set ?_ GE250.out | refine below_set ?_ GE251.out) | exact HB.out)) hb); clear BK250; clear BK251; clear HB; have BK250 := n0_; have BK251 := n1_; have HB := n2_; clear n0_ n1_ n2_; (try clear hb); (try clear hb2); (try clear hk); (try clear hi)))
          go_ret
          exact ⟨by first | rfl | (simp [errW_none, errW_some] <;> rfl) | (simp [*, errW_none, errW_some] <;> rfl), by repeat (first | (with_reducible first | exact HB.out | apply below_alloc | apply pw_below_drewN | apply below_drew1 | refine below_set ?_ GE250.out | refine below_set ?_ GE251.out) | exact HB.out)⟩

end Go.Proofs.YtjkpgfjnidflhaaDoor.F
end
