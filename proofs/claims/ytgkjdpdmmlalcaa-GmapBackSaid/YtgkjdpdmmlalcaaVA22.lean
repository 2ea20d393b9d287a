import Derived.Test.YtgkjdpdmmlalcaaVZF0
import Derived.Test.YtgkjdpdmmlalcaaVA0
import Derived.Test.YtgkjdpdmmlalcaaVA4HHost3
import Derived.Test.YtgkjdpdmmlalcaaVA9
import Derived.Test.YtgkjdpdmmlalcaaVA11
import Derived.Test.YtgkjdpdmmlalcaaVA13
import Derived.Test.YtgkjdpdmmlalcaaVA14HGuest4
import Derived.Test.YtgkjdpdmmlalcaaVA15
import Derived.Test.YtgkjdpdmmlalcaaVA16HGuest7
import Derived.Test.YtgkjdpdmmlalcaaVA17
import Derived.Test.YtgkjdpdmmlalcaaVA19
import Derived.Test.YtgkjdpdmmlalcaaVA21HGmap2r
section
namespace Go.Proofs.Ytgkjdpdmmlalcaa.F
open Go.RowKit Go.Shelf Go.Proofs.YtgkjdpdmmlalcaaW.PrintWords Go.Proofs.YtgkjdpdmmlalcaaW.PrintLast Go.Proofs.YtgkjdpdmmlalcaaW.PrintMore
set_option linter.unusedVariables false
set_option linter.unusedSimpArgs false
attribute [local go_sem] Oper.semAt_some
theorem blk_nw2 (w : World) (o o' o'' : Obj) : (((w.alloc o).alloc o').alloc o'').heap[w.heap.size + 1 + 1]? = some o'' := by
  have h := blk_new1 (w.alloc o) o' o''
  rwa [World.size_alloc] at h
theorem noGoto_ret {Q : Exit → Act → World → Prop} {a : Act} {w : World} : Exit.noGoto Q .ret a w = Q .ret a w := rfl
end Go.Proofs.Ytgkjdpdmmlalcaa.F
end
section
namespace Go.Proofs.Ytgkjdpdmmlalcaa.F
open Go.RowKit Go.Shelf Go.Proofs.YtgkjdpdmmlalcaaW.PrintWords Go.Proofs.YtgkjdpdmmlalcaaW.PrintLast Go.Proofs.YtgkjdpdmmlalcaaW.PrintMore
set_option linter.unusedVariables false
set_option linter.unusedSimpArgs false
attribute [local go_sem] Oper.semAt_some
structure FreI (w : World) (pre : List (Int × Bool)) (W : World) : Prop where
  z : ∀ x ∈ pre, x.2 = false
  bel : Below w.heap.size w W
  at_ : W.heap[w.heap.size + 1]? = some (.cells #[.int .u32 0] 30 (0, 0))
  ok : W.heap[w.heap.size + 1 + 1]? = some (.cells #[.bool false] 4 (0, 0))
def FreX (w : World) (c : Code) (pre : List (Int × Bool)) (W : World) : Prop :=
  c = .exit 0 ∧ ∃ pre' x, pre = pre' ++ [x] ∧ x.2 = true ∧ Below w.heap.size w W ∧ W.heap[w.heap.size + 1]? = some (.cells #[.int .u32 x.1] 30 (0, 0)) ∧ W.heap[w.heap.size + 1 + 1]? = some (.cells #[.bool true] 4 (0, 0))
-- HAND fn=ferry/gmap.free ; rounds=0 ; making=1 ; laid=0
def gmap_free.f (l0_0 : List SM) (l0_1 : List SC) (a0_2 : Int) (l0_3 : List SP) (a0_4 a0_5 a1 : Int) : Option (Int × Bool) := if l0_3.length ≤ 1000000 ∧ 0 ≤ a1 ∧ a1 < 4294967296 ∧ 0 ≤ a0_4 ∧ a0_4 < 4294967296 then (gmap_count.f a0_5).bind fun h => freeGo l0_3 (Int.tdiv a0_4 4096) h a1 460000 458752 else none
def gFree.T7 : Bool × List (List Nat × List Nat) := (true, [([], []), ([], []), ([0, 0], [0]), ([1, 2, 0, 1, 2], [1])])
def gFree.B7 : List Nat := [0, 0, 1, 7]
theorem gFree.tab7 : rtab .any (opsOf Try.f67 7) = gFree.T7 := by kernel_rfl
theorem gFree.bits7 : waitsOk gFree.T7.2 gFree.B7 = true := by kernel_rfl
set_option maxHeartbeats 8000000 in
set_option maxRecDepth 100000 in
theorem gmap_free.calls (A0_0 : Option Addr) (c0_0 : Nat) (l0_0 : List SM) (A0_1 : Option Addr) (c0_1 : Nat) (l0_1 : List SC) (a0_2 : Int) (A0_3 : Option Addr) (c0_3 : Nat) (l0_3 : List SP) (a0_4 a0_5 a1 : Int) (r1 : Int) (r2 : Bool) (w : World) (hr0_0 : Kd.C kM w A0_0 l0_0.length l0_0) (hc0_0 : l0_0.length ≤ c0_0) (hr0_1 : Kd.C kC w A0_1 l0_1.length l0_1) (hc0_1 : l0_1.length ≤ c0_1) (hr0_3 : Kd.C kP w A0_3 l0_3.length l0_3) (hc0_3 : l0_3.length ≤ c0_3) (h : gmap_free.f l0_0 l0_1 a0_2 l0_3 a0_4 a0_5 a1 = some (r1, r2)) :
    Calls Try.prog 67 #[.agg #[.slice A0_0 l0_0.length c0_0, .slice A0_1 l0_1.length c0_1, .int .u64 a0_2, .slice A0_3 l0_3.length c0_3, .int .u32 a0_4, .int .u32 a0_5], .int .u32 a1] w fun e w' => e = .returned (.tuple #[.int .u32 r1, .bool r2]) ∧ Below w.heap.size w w' := by
  unfold gmap_free.f at h
  split at h
  case isFalse => cases h
  rename_i hok
  obtain ⟨hp, ha, ha2, hs, hs2⟩ := hok
  obtain ⟨hi, hcn, hgo⟩ := Option.bind_eq_some_iff.1 h
  have HR := Lib.hid hgo
  have HC := Lib.hid hcn
  have PR := Lib.hid hr0_3
  have PC := Lib.hid hc0_3
  have PL := Lib.hid hp
  have NA := Lib.hid (And.intro ha ha2)
  have NS := Lib.hid (And.intro hs hs2)
  clear h hp ha ha2 hs hs2 hcn hgo hr0_0 hc0_0 hr0_1 hc0_1 hr0_3 hc0_3
  have mixed : Try.prog.follows Departure.mixedOrders = true := by kernel_rfl
  have hu2 := Try.underlying63
  have hu3 := Try.underlying29
  have hu4 := Try.underlying25
  refine (callsIn_wide (n := 6)).1 ?_
  refine callsIn_of_wp_marks Try.func67 rfl trivial ?_ rfl
  simp only [Try.ntmps67, List.size_toArray, List.length_cons, List.length_nil, Nat.reduceAdd, Nat.reduceSub, Array.replicate_succ, Array.replicate_zero, List.push_toArray, List.append_toArray, List.nil_append, List.cons_append]
  gi_wp2_with (fail)
  refine wpIn_wide.2 (wp_scope_straight ((wpIn_wide (n := 6)).1 ?_))
  gi_wp2_with (fail)
  refine wpIn_label ?_
  rename_i KQ hKQ
  refine hKQ _ _ ?_
  clear hKQ KQ
  have K1 := Lib.hid (blk_alloc (blk_alloc (blk_new w (.cells #[.slice A0_0 l0_0.length c0_0, .slice A0_1 l0_1.length c0_1, .int .u64 a0_2, .slice A0_3 l0_3.length c0_3, .int .u32 a0_4, .int .u32 a0_5] 63)) (.cells #[.int .u32 0] 30)) (.cells #[.bool false] 4))
  have K2 := Lib.hid (blk_alloc (blk_new1 w (.cells #[.slice A0_0 l0_0.length c0_0, .slice A0_1 l0_1.length c0_1, .int .u64 a0_2, .slice A0_3 l0_3.length c0_3, .int .u32 a0_4, .int .u32 a0_5] 63) (.cells #[.int .u32 0] 30)) (.cells #[.bool false] 4))
  have K3 := Lib.hid (blk_nw2 w (.cells #[.slice A0_0 l0_0.length c0_0, .slice A0_1 l0_1.length c0_1, .int .u64 a0_2, .slice A0_3 l0_3.length c0_3, .int .u32 a0_4, .int .u32 a0_5] 63) (.cells #[.int .u32 0] 30) (.cells #[.bool false] 4))
  have D0 := Lib.hid ((((Below.refl _ w).alloc (Nat.le_refl _) (.cells #[.slice A0_0 l0_0.length c0_0, .slice A0_1 l0_1.length c0_1, .int .u64 a0_2, .slice A0_3 l0_3.length c0_3, .int .u32 a0_4, .int .u32 a0_5] 63)).alloc (by simp) (.cells #[.int .u32 0] 30)).alloc (by simp; omega) (.cells #[.bool false] 4))
  have Z0 := Lib.hid (show (((w.alloc (.cells #[.slice A0_0 l0_0.length c0_0, .slice A0_1 l0_1.length c0_1, .int .u64 a0_2, .slice A0_3 l0_3.length c0_3, .int .u32 a0_4, .int .u32 a0_5] 63)).alloc (.cells #[.int .u32 0] 30)).alloc (.cells #[.bool false] 4)).heap.size = w.heap.size + 3 by simp)
  generalize ((w.alloc (.cells #[.slice A0_0 l0_0.length c0_0, .slice A0_1 l0_1.length c0_1, .int .u64 a0_2, .slice A0_3 l0_3.length c0_3, .int .u32 a0_4, .int .u32 a0_5] 63)).alloc (.cells #[.int .u32 0] 30)).alloc (.cells #[.bool false] 4) = y1 at K1 K2 K3 D0 Z0 ⊢
  have q0 := (sblk_cell K1.out 0).trans rfl
  have q1 := (sblk_cell K1.out 1).trans rfl
  have q2 := (sblk_cell K1.out 2).trans rfl
  have q3 := (sblk_cell K1.out 3).trans rfl
  have q4 := (sblk_cell K1.out 4).trans rfl
  have q5 := (sblk_cell K1.out 5).trans rfl
  gi_wp2_with (refine ⟨trivial, ?_⟩; gi_at_call 101; refine (callsIn_wide.2 (gRoom.calls A0_0 c0_0 l0_0 A0_1 c0_1 l0_1 a0_2 A0_3 c0_3 l0_3 a0_4 a0_5 a1 hi _ NS.out.1 NS.out.2 HC.out)).mono ?_; rintro e y2 ⟨Bn, Bs, Bl, Bh, rfl, hm⟩)
  have M0 := Lib.hid hm
  have BB := Lib.hid (show Below w.heap.size w y2 from D0.out.trans (hm.bel.mono D0.out.size))
  have ZZ := Lib.hid (show w.heap.size + 3 ≤ y2.heap.size from Nat.le_trans (Nat.le_of_eq Z0.out.symm) hm.bel.size)
  have F1 := Lib.hid ((hm.bel.block _ (by have := Z0.out; omega)).trans K2.out)
  have F2 := Lib.hid ((hm.bel.block _ (by have := Z0.out; omega)).trans K3.out)
  clear hm K1 K2 K3 q0 q1 q2 q3 q4 q5
  have L0 := Lib.hid (show 0 ≤ Int.tdiv a0_4 4096 from Int.tdiv_nonneg NS.out.1 (by decide))
  refine' rangeFunc_X rfl (by omega) (gf := 138) (lb := #[.pointer (some ⟨Bn, 0, none⟩), .pointer (some ⟨Bs, 0, none⟩), .pointer (some ⟨Bl, 0, none⟩), .pointer (some ⟨Bh, 0, none⟩)]) rfl trivial (enters_of Try.func138 (by kernel_rfl) rfl)
    (gRoom_stops y1 Bn Bs Bl Bh A0_0 c0_0 l0_0 A0_1 c0_1 l0_1 a0_2 A0_3 c0_3 l0_3 a0_4 a0_5 a1 (Int.tdiv a0_4 4096) hi (Kd.C_below PR.out D0.out) PC.out PL.out NA.out.1 NA.out.2 L0.out y2 M0.out) (fun h k => kmr_t h k)
    (fun V o o' hl hc _ => ⟨fun hm => hm.own (grownBy_putObj' V _ o') (fun r e => by cases e; exact ⟨Nat.le_succ_of_le M0.out.bel.size, o, hl, hc⟩), fun k ob hk ho => (World.putObj_heap_other (by omega)).trans ho⟩) (fun _ => rfl)
    (FreI w) (FreX w) (fun pre V h => h.z)
    (fun pre A B row hs hg hr => ⟨hs.z, hs.bel.grown hg hs.bel.size (fun k e => by have := (hr k e).1; have := ZZ.out; omega), blk_own hs.at_ hg (fun r e => (hr r e).2), blk_own hs.ok hg (fun r e => (hr r e).2)⟩)
    (fun c pre A B row hs hg hr => ⟨hs.1, by
      obtain ⟨pre', x, e, h1, h2, h3, h4⟩ := hs.2
      exact ⟨pre', x, e, h1, h2.grown hg h2.size (fun k e => by have := (hr k e).1; have := ZZ.out; omega), blk_own h3 hg (fun r e => (hr r e).2), blk_own h4 hg (fun r e => (hr r e).2)⟩⟩)
    (fun pre A B hs hb => ⟨hs.z, hs.bel.trans (hb.mono BB.out.size), (hb.block _ (by have := ZZ.out; omega)).trans hs.at_, (hb.block _ (by have := ZZ.out; omega)).trans hs.ok⟩)
    (fun c pre A B hs hb => ⟨hs.1, by
      obtain ⟨pre', x, e, h1, h2, h3, h4⟩ := hs.2
      exact ⟨pre', x, e, h1, h2.trans (hb.mono BB.out.size), (hb.block _ (by have := ZZ.out; omega)).trans h3, (hb.block _ (by have := ZZ.out; omega)).trans h4⟩⟩)
    ⟨(fun x hx => by cases hx), BB.out, F1.out, F2.out⟩
    (fun x V => { tmps := #[.agg #[.slice A0_0 l0_0.length c0_0, .slice A0_1 l0_1.length c0_1, .int .u64 a0_2, .slice A0_3 l0_3.length c0_3, .int .u32 a0_4, .int .u32 a0_5], .int .u32 a1, .pointer (some ⟨w.heap.size, 0, none⟩), undef, .int .u32 0, .bool false, .pointer (some ⟨w.heap.size + 1, 0, none⟩), .pointer (some ⟨w.heap.size + 1 + 1, 0, none⟩), .int .u32 x.1, .bool x.2, .agg #[.slice A0_0 l0_0.length c0_0, .slice A0_1 l0_1.length c0_1, .int .u64 a0_2, .slice A0_3 l0_3.length c0_3, .int .u32 a0_4, .int .u32 a0_5], .int .u32 a1, .func (.func 138) #[] #[.pointer (some ⟨Bn, 0, none⟩), .pointer (some ⟨Bs, 0, none⟩), .pointer (some ⟨Bl, 0, none⟩), .pointer (some ⟨Bh, 0, none⟩)], .int .u32 x.1, .bool x.2, undef, undef, undef, undef], defers := [] }) (fun x V => V) (fun x V => Below.refl _ _) (fun hb => ⟨fun hm => hm.below hb, fun k o _ ho => (hb.block k (Array.getElem?_eq_some_iff.1 ho).1).trans ho⟩) ?assign ?body ?done ?stop
  case assign =>
    intro l x V K hK
    gi_wp2
    exact hK
  case body =>
    rintro l pre x V0 V hz0 hI hlen hbox hsz
    have II := Lib.hid hI
    have HZ := Lib.hid hz0
    clear hI hlen hbox hsz hz0
    have c0 := (sblk_cell II.out.at_ 0).trans rfl
    have c1 := (sblk_cell II.out.ok 0).trans rfl
    have f0 := sblk_free II.out.at_ 0
    have f1 := sblk_free II.out.ok 0
    obtain ⟨x1, x2⟩ := x
    dsimp only
    cases x2 with
    | false =>
      gi_wp2
      refine ⟨KeepsFrom.refl _ _, ⟨fun h => h, fun _ _ _ h => h⟩, ?_, II.out.bel, II.out.at_, II.out.ok⟩
      intro y hy
      rcases List.mem_append.1 hy with h | h
      · exact II.out.z y h
      · rw [List.mem_singleton.1 h]
    | true =>
      gi_wp2
      refine ⟨((KeepsOthers.setCell _ _ _).trans (KeepsOthers.setCell _ _ _)).from _, rfl, pre, _, rfl, rfl, ?_, ?_, ?_⟩
      · exact (II.out.bel.setCell (p := ⟨w.heap.size + 1, 0, none⟩) (Nat.le_succ _) _).setCell (p := ⟨w.heap.size + 1 + 1, 0, none⟩) (by show w.heap.size ≤ w.heap.size + 1 + 1; omega) _
      · exact blk_far (p := ⟨w.heap.size + 1 + 1, 0, none⟩) (blk_put II.out.at_ 0 _ rfl) (show w.heap.size + 1 ≠ w.heap.size + 1 + 1 by omega) _
      · exact blk_put (blk_far (p := ⟨w.heap.size + 1, 0, none⟩) II.out.ok (show w.heap.size + 1 + 1 ≠ w.heap.size + 1 by omega) _) 0 _ rfl
  case done =>
    rintro D ys W hD hS hI hK
    have FA := Lib.hid hI.at_
    have FO := Lib.hid hI.ok
    have FB := Lib.hid hI.bel
    have KD := Lib.hid hK
    have DD := Lib.hid (Nat.le_trans BB.out.size hD)
    have e1 := (hS 460000 (by decide)).symm.trans HR.out
    obtain ⟨rfl, rfl⟩ := Prod.mk.inj (Option.some.inj e1)
    clear e1 hI hK hD hS
    gi_wp2
    refine wpIn_wide.2 (ends_of ?_)
    refine start_ (n := 4) (S := fun w' => w'.cell? ⟨w.heap.size + 1, 0, none⟩ = some (.int .u32 0) ∧ w'.cell? ⟨w.heap.size + 1 + 1, 0, none⟩ = some (.bool false)) (ds := []) (mb_ 4 0) (by kernel_rfl) rfl rfl ⟨((sblk_cell (blk_drew FA.out) 0).trans rfl), ((sblk_cell (blk_drew FO.out) 0).trans rfl)⟩ (fun hHeld => ?_)
    refine with_tabW gFree.tab7 gFree.bits7 (fun HT_ HW_ => ?_)
    refine t2S_ 0 17 (mb_ 4 1) ?_
    refine pS_ 2 4 (mb_ 4 5) ?_
    refine t2S_ 1 18 (mb_ 4 7) ?_
    refine pS_ 3 5 (mb_ 4 15) ?_
    refine done_ (done_of HT_.out (by kernel_rfl)) ?_
    rename_i KQ hKQ
    refine hKQ _ _ ?_
    clear hKQ KQ
    gi_wp2
    rw [noGoto_ret]
    dsimp +zetaDelta only
    refine ⟨by simp, .inl ⟨_, _, rfl, run_takeDeferred (blk_drew KD.out), ?_⟩⟩
    exact ⟨.tuple #[.int .u32 0, .bool false], by simp [results, Try.results67, go_sem], rfl, (below_drew FB.out).trans (belowK_b (n₀ := w.heap.size) (w := w) (Nat.le_refl _) _ D _ _ DD.out (blk_drew KD.out) rfl rfl)⟩
  case stop =>
    rintro D c pre W hD ⟨pre1, x1, rfl, hS⟩ ⟨rfl, pre', x, hx, h1, h2, h3, h4⟩ hK
    obtain ⟨rfl, e2⟩ := List.append_inj' hx rfl
    obtain rfl : x1 = x := (List.cons.inj e2).1
    have FA := Lib.hid h3
    have FO := Lib.hid h4
    have FB := Lib.hid h2
    have KD := Lib.hid hK
    have DD := Lib.hid (Nat.le_trans BB.out.size hD)
    have e1 := (hS h1 460000 (by decide)).symm.trans HR.out
    obtain ⟨e3, e4⟩ := Prod.mk.inj (Option.some.inj e1)
    rw [e3] at FA
    rw [e4] at FO
    clear e1 h1 h2 h3 h4 hK hD hS e3 hx e2
    subst e4
    gi_wp2
    refine wpIn_wide.2 (ends_of ?_)
    refine start_ (n := 4) (S := fun w' => w'.cell? ⟨w.heap.size + 1, 0, none⟩ = some (.int .u32 r1) ∧ w'.cell? ⟨w.heap.size + 1 + 1, 0, none⟩ = some (.bool true)) (ds := []) (mb_ 4 0) (by kernel_rfl) rfl rfl ⟨((sblk_cell (blk_drew FA.out) 0).trans rfl), ((sblk_cell (blk_drew FO.out) 0).trans rfl)⟩ (fun hHeld => ?_)
    refine with_tabW gFree.tab7 gFree.bits7 (fun HT_ HW_ => ?_)
    refine t2S_ 0 17 (mb_ 4 1) ?_
    refine pS_ 2 4 (mb_ 4 5) ?_
    refine t2S_ 1 18 (mb_ 4 7) ?_
    refine pS_ 3 5 (mb_ 4 15) ?_
    refine done_ (done_of HT_.out (by kernel_rfl)) ?_
    rename_i KQ hKQ
    refine hKQ _ _ ?_
    clear hKQ KQ
    gi_wp2
    rw [noGoto_ret]
    dsimp +zetaDelta only
    refine ⟨by simp, .inl ⟨_, _, rfl, run_takeDeferred (blk_drew KD.out), ?_⟩⟩
    exact ⟨.tuple #[.int .u32 r1, .bool true], by simp [results, Try.results67, go_sem], rfl, (below_drew FB.out).trans (belowK_b (n₀ := w.heap.size) (w := w) (Nat.le_refl _) _ D _ _ DD.out (blk_drew KD.out) rfl rfl)⟩
end Go.Proofs.Ytgkjdpdmmlalcaa.F
end
