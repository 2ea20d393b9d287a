import Derived.Test.YtgkjdpdmmlalcaaVZF0
import Derived.Test.YtgkjdpdmmlalcaaVA0
import Derived.Test.YtgkjdpdmmlalcaaVA4HHost3
import Derived.Test.YtgkjdpdmmlalcaaVA9
import Derived.Test.YtgkjdpdmmlalcaaVA10HGuest1
import Derived.Test.YtgkjdpdmmlalcaaVA11
import Derived.Test.YtgkjdpdmmlalcaaVA13
import Derived.Test.YtgkjdpdmmlalcaaVA14HGuest4
import Derived.Test.YtgkjdpdmmlalcaaVA15
import Derived.Test.YtgkjdpdmmlalcaaVA16HGuest7
section
namespace Go.Proofs.Ytgkjdpdmmlalcaa.F
open Go.RowKit Go.Shelf Go.Proofs.YtgkjdpdmmlalcaaW.PrintWords Go.Proofs.YtgkjdpdmmlalcaaW.PrintLast Go.Proofs.YtgkjdpdmmlalcaaW.PrintMore
set_option linter.unusedVariables false
set_option linter.unusedSimpArgs false
def unmapStep (p2 : List SP) (b : Int) (st : List SM × List SC) (x : SP) : List SM × List SC :=
  if usedS p2 b (hoS b x.f0) = true then st else ((unmapS st.1 st.2 (hoS b x.f0) 1).1, (unmapS st.1 st.2 (hoS b x.f0) 1).2.1)
def unmapLoop (p2 : List SP) (b : Int) (p : List SP) (st : List SM × List SC) : List SM × List SC := p.foldl (unmapStep p2 b) st
theorem unmapLoop_snoc (p2 : List SP) (b : Int) {p : List SP} {k : Nat} (h : k < p.length) (st : List SM × List SC) : unmapLoop p2 b (p.take (k + 1)) st = unmapStep p2 b (unmapLoop p2 b (p.take k) st) p[k] := by
  rw [List.take_succ_eq_append_getElem h]
  unfold unmapLoop
  rw [List.foldl_append]
  rfl
def gUnmapS (l : List SM) (m : List SC) (b : Int) (p : List SP) (a n : Int) : List SM × List SC × List SP × Int :=
  if gwrongS a n 0 = true then (l, m, p, 22) else ((unmapLoop (delS p a n) b p (l, dropC m b a n)).1, (unmapLoop (delS p a n) b p (l, dropC m b a n)).2, delS p a n, 0)
theorem gHUnmap_V {W : World} {ok : Nat → Prop} {A0 A1 : Option Addr} {c0 c1 : Nat} {l : List SM} {m : List SC} (hH : RowsH W ok A0 c0 A1 c1 l m) (hF : FitH l m) (a : Int) (a0 : 0 ≤ a) (a1 : a ≤ 18446744073709551615) :
    Calls Try.prog 100 #[.agg #[.slice A0 l.length c0, .slice A1 m.length c1], .int .u64 a, .int .u64 1] W fun e w' => ∃ A' c' B' d', e = .returned (.tuple #[.agg #[.slice A' (unmapS l m a 1).1.length c', .slice B' (unmapS l m a 1).2.1.length d'], .int .i64 (unmapS l m a 1).2.2]) ∧ RowsH w' (fun k => (ok k ∨ W.heap.size ≤ k) ∧ k < w'.heap.size) A' c' B' d' (unmapS l m a 1).1 (unmapS l m a 1).2.1 ∧ Below W.heap.size W w' := by
  refine (host_Unmap.calls ok A0 c0 l ok A1 c1 m a 1 _ _ _ W hH.1 hH.2 (host_Unmap_spec l m hF.wm (by have := hF.ln; omega) (by have := hF.mn; omega) a0 a1 (by decide))).mono ?_
  rintro e w' ⟨x, y, he, h0, h1, hb⟩
  obtain ⟨A', c', B', d', rfl, rfl, h⟩ := RowsH.swap h0 h1
  exact ⟨A', c', B', d', he, h.bound.wide (fun k hk => ⟨hk.1.imp (fun h => h.elim id id) id, hk.2⟩), hb⟩
structure UnI (okI : Nat → Prop) (w W : World) (gv : Array Value) (gw ND : Nat) (b : Int) (A3 : Option Addr) (c3 : Nat) (p2 : List SP) (st : List SM × List SC) : Prop where
  bel : Below w.heap.size w W
  c4 : W.heap[w.heap.size]? = some (.cells gv 29 (0, 0))
  c8 : W.heap[w.heap.size + 1]? = some (.cells #[.slice none 0 0, .slice none 0 0, .int .u64 0, .slice none 0 0] 29 (0, 0))
  cw : ∃ A0 c0 A1 c1, W.heap[gw]? = some (.cells #[.slice A0 st.1.length c0, .slice A1 st.2.length c1, .int .u64 b, .slice A3 p2.length c3] 135 (0, 0)) ∧ RowsH W (fun k => (okI k ∧ k < w.heap.size) ∨ gw + 1 ≤ k) A0 c0 A1 c1 st.1 st.2
  ow : OwnP W ND A3 c3 p2
  fit : FitH st.1 st.2
section
variable {okI : Nat → Prop} {w W W' : World} {gv : Array Value} {gw ND : Nat} {b : Int} {A3 : Option Addr} {c3 : Nat} {p2 : List SP} {st : List SM × List SC}
theorem UnI.below (h : UnI okI w W gv gw ND b A3 c3 p2 st) (hb : Below W.heap.size W W') : UnI okI w W' gv gw ND b A3 c3 p2 st := by
  obtain ⟨A0, c0, A1, c1, hc, hR⟩ := h.cw
  exact ⟨h.bel.trans (hb.mono h.bel.size), blk_below h.c4 hb, blk_below h.c8 hb, ⟨A0, c0, A1, c1, blk_below hc hb, hR.below hb⟩, h.ow.move (fun k _ hk => hb.block k hk), h.fit⟩
theorem UnI.put {A0 A1 : Option Addr} {c0 c1 : Nat} {x y : Value} {l' : List SM} {m' : List SC} (h : UnI okI w W gv gw ND b A3 c3 p2 st) (hz : w.heap.size + 1 < gw) (hN : gw < ND) (hc : W.heap[gw]? = some (.cells #[x, y, .int .u64 b, .slice A3 p2.length c3] 135 (0, 0)))
    (hR : RowsH W (fun k => (okI k ∧ k < w.heap.size) ∨ gw + 1 ≤ k) A0 c0 A1 c1 l' m') (hF : FitH l' m') : UnI okI w ((W.setCell ⟨gw, 0, none⟩ (.slice A0 l'.length c0)).setCell ⟨gw, 1, none⟩ (.slice A1 m'.length c1)) gv gw ND b A3 c3 p2 (l', m') :=
  ⟨(h.bel.setCell (p := ⟨gw, 0, none⟩) (by show w.heap.size ≤ gw; omega) _).setCell (p := ⟨gw, 1, none⟩) (by show w.heap.size ≤ gw; omega) _, blk_far2 h.c4 (by omega) _ _, blk_far2 h.c8 (by omega) _ _,
    ⟨A0, c0, A1, c1, blk_put (blk_put hc 0 _ rfl) 1 _ rfl, hR.move (fun k hk _ => (set_far (by omega)).trans (set_far (by omega)))⟩, h.ow.move (fun k hk _ => (set_far (by omega)).trans (set_far (by omega))), hF⟩
end
theorem ret_put4 {y : World} {b8 : Nat} {T : TypeId} {x0 x1 x2 x3 : Value} (h8 : y.heap[b8]? = some (.cells #[x0, x1, x2, x3] T (0, 0))) (v0 v1 v2 v3 : Value) :
    ((((y.setCell ⟨b8, 0, none⟩ v0).setCell ⟨b8, 1, none⟩ v1).setCell ⟨b8, 2, none⟩ v2).setCell ⟨b8, 3, none⟩ v3).heap[b8]? = some (.cells #[v0, v1, v2, v3] T (0, 0)) ∧
    (∀ k, k ≠ b8 → ((((y.setCell ⟨b8, 0, none⟩ v0).setCell ⟨b8, 1, none⟩ v1).setCell ⟨b8, 2, none⟩ v2).setCell ⟨b8, 3, none⟩ v3).heap[k]? = y.heap[k]?) ∧
    (∀ n, n ≤ b8 → Below n y ((((y.setCell ⟨b8, 0, none⟩ v0).setCell ⟨b8, 1, none⟩ v1).setCell ⟨b8, 2, none⟩ v2).setCell ⟨b8, 3, none⟩ v3)) :=
  ⟨blk_put (blk_put (blk_put (blk_put h8 0 v0 rfl) 1 v1 rfl) 2 v2 rfl) 3 v3 rfl, fun k h1 => (set_far h1).trans ((set_far h1).trans ((set_far h1).trans (set_far h1))),
   fun n h1 => ((((Below.refl n y).setCell h1 _).setCell h1 _).setCell h1 _).setCell h1 _⟩

set_option maxHeartbeats 8000000 in
set_option maxRecDepth 100000 in
theorem gUnmap_A (A0_0 : Option Addr) (c0_0 : Nat) (l0_0 : List SM) (A0_1 : Option Addr) (c0_1 : Nat) (l0_1 : List SC) (a0_2 : Int) (A0_3 : Option Addr) (c0_3 : Nat) (l0_3 : List SP) (a n : Int) (w : World) (okI : Nat → Prop) (hR : RowsG w okI A0_0 c0_0 A0_1 c0_1 A0_3 c0_3 l0_0 l0_1 l0_3) (hF : FitH l0_0 l0_1) (hs : Rises pgK l0_3) (hp : l0_3.length ≤ 256) (ha : 0 ≤ a) (ha2 : a < 4294967296) (hn : 0 ≤ n) (hn2 : n < 4294967296) {r1 : List SM} {r2 : List SC} {r3 : List SP} {r4 : Int} (hr : gUnmapS l0_0 l0_1 a0_2 l0_3 a n = (r1, r2, r3, r4)) :
    Calls Try.prog 65 #[.agg #[.slice A0_0 l0_0.length c0_0, .slice A0_1 l0_1.length c0_1, .int .u64 a0_2, .slice A0_3 l0_3.length c0_3], .int .u32 a, .int .u32 n] w (RetA w okI r1 r2 a0_2 r3 (fun g => .tuple #[g, .int .i64 r4])) := by
  have hu := Try.underlying135
  have hu2 := Try.underlying29
  have hu3 := Try.underlying25
  have hu4 := Try.underlying41
  have FF := Lib.hid hF
  have SS := Lib.hid hs
  have LP := Lib.hid hp
  have NA := Lib.hid (And.intro ha ha2)
  have NN := Lib.hid (And.intro hn hn2)
  have RG := Lib.hid hR.bound
  have HR := Lib.hid hr
  clear hF hs hp ha ha2 hn hn2 hR hr
  have WR := Lib.hid (fun w => guest_wrong.calls a n 0 _ w (gwrong_some a n 0))
  have CH := Lib.hid (show Chain [w] w from ⟨Below.refl _ _, trivial⟩)
  go_enter Try.func65, Try.ntmps65
  go_wp2_with (fail)
  refine (WR.out _).mono ?_
  rintro e wx ⟨rfl, ⟨nd, rfl⟩⟩
  replace CH := Lib.hid (pw_below_drewN ((CH.out.head.alloc (Nat.le_refl _) (.cells #[.slice A0_0 l0_0.length c0_0, .slice A0_1 l0_1.length c0_1, .int .u64 a0_2, .slice A0_3 l0_3.length c0_3] 29)).alloc (by simp) (.cells #[.slice none 0 0, .slice none 0 0, .int .u64 0, .slice none 0 0] 29)) nd)
  have B4 := Lib.hid (show (World.drewN ((w.alloc (.cells #[.slice A0_0 l0_0.length c0_0, .slice A0_1 l0_1.length c0_1, .int .u64 a0_2, .slice A0_3 l0_3.length c0_3] 29)).alloc (.cells #[.slice none 0 0, .slice none 0 0, .int .u64 0, .slice none 0 0] 29)) nd).heap[w.heap.size]? = some (.cells #[.slice A0_0 l0_0.length c0_0, .slice A0_1 l0_1.length c0_1, .int .u64 a0_2, .slice A0_3 l0_3.length c0_3] 29 (0, 0)) from blk_alloc (blk_new w _) _)
  have B8 := Lib.hid (show (World.drewN ((w.alloc (.cells #[.slice A0_0 l0_0.length c0_0, .slice A0_1 l0_1.length c0_1, .int .u64 a0_2, .slice A0_3 l0_3.length c0_3] 29)).alloc (.cells #[.slice none 0 0, .slice none 0 0, .int .u64 0, .slice none 0 0] 29)) nd).heap[w.heap.size + 1]? = some (.cells #[.slice none 0 0, .slice none 0 0, .int .u64 0, .slice none 0 0] 29 (0, 0)) from blk_new1 w _ _)
  generalize World.drewN ((w.alloc (.cells #[.slice A0_0 l0_0.length c0_0, .slice A0_1 l0_1.length c0_1, .int .u64 a0_2, .slice A0_3 l0_3.length c0_3] 29)).alloc (.cells #[.slice none 0 0, .slice none 0 0, .int .u64 0, .slice none 0 0] 29)) nd = y1 at CH B4 B8 ⊢
  cases hw : gwrongS a n 0
  rotate_left
  · skip
    have HQ := HR.out
    unfold gUnmapS at HQ
    rw [if_pos hw] at HQ
    cases HQ
    have q4_0 := (sblk_cell B4.out 0).trans rfl
    have q4_1 := (sblk_cell B4.out 1).trans rfl
    have q4_2 := (sblk_cell B4.out 2).trans rfl
    have q4_3 := (sblk_cell B4.out 3).trans rfl
    have q8_0 := (sblk_cell B8.out 0).trans rfl
    have q8_1 := (sblk_cell B8.out 1).trans rfl
    have q8_2 := (sblk_cell B8.out 2).trans rfl
    have q8_3 := (sblk_cell B8.out 3).trans rfl
    have f8_0 := sblk_free B8.out 0
    have f8_1 := sblk_free B8.out 1
    have f8_2 := sblk_free B8.out 2
    have f8_3 := sblk_free B8.out 3
    go_wp2
    obtain ⟨u8, uk, ub⟩ := ret_put4 B8.out (.slice A0_0 l0_0.length c0_0) (.slice A0_1 l0_1.length c0_1) (.int .u64 a0_2) (.slice A0_3 l0_3.length c0_3)
    have re0 := (sblk_cell u8 0).trans rfl
    have re1 := (sblk_cell u8 1).trans rfl
    have re2 := (sblk_cell u8 2).trans rfl
    have re3 := (sblk_cell u8 3).trans rfl
    have hB := CH.out.trans (ub w.heap.size (by omega))
    have hV := (RG.out.below hB).wide (ok' := fun k => okI k ∨ w.heap.size ≤ k) (fun k hk => .inl hk.1)
    exact bodyPost_ret (v := .tuple #[.agg #[.slice A0_0 l0_0.length c0_0, .slice A0_1 l0_1.length c0_1, .int .u64 a0_2, .slice A0_3 l0_3.length c0_3], .int .i64 22]) (by simp [results, Try.results65, go_sem, re0, re1, re2, re3]) rfl ⟨_, _, _, _, _, _, rfl, hV, hB⟩
  have HW := Lib.hid hw
  clear hw WR
  have q4_0 := (sblk_cell B4.out 0).trans rfl
  have q4_1 := (sblk_cell B4.out 1).trans rfl
  have q4_2 := (sblk_cell B4.out 2).trans rfl
  have q4_3 := (sblk_cell B4.out 3).trans rfl
  go_wp2_with (fail)
  have CD := Lib.hid (CH.out.alloc CH.out.size (.cells #[.slice A0_0 l0_0.length c0_0, .slice A0_1 l0_1.length c0_1, .int .u64 a0_2, .slice A0_3 l0_3.length c0_3] 135))
  refine (gDrop.calls y1.heap.size A0_0 c0_0 l0_0 A0_1 c0_1 l0_1 a0_2 A0_3 c0_3 l0_3 a n (fun k => okI k ∧ k < w.heap.size) (y1.alloc (.cells #[.slice A0_0 l0_0.length c0_0, .slice A0_1 l0_1.length c0_1, .int .u64 a0_2, .slice A0_3 l0_3.length c0_3] 135)) (fun k hk e => by have := CH.out.size; omega) (blk_new y1 _) (RG.out.below CD.out) (Nat.le_trans FF.out.mn (by decide)) (Nat.le_trans LP.out (by decide))).mono ?_
  rintro e y2 ⟨rfl, hg, ND, A0, c0, A1, c1, A3, c3, hND, hbk, hR2, hOw⟩
  have L8 := sblk_lt B8.out
  have C4 := Lib.hid (blk_keep (blk_alloc B4.out (.cells #[.slice A0_0 l0_0.length c0_0, .slice A0_1 l0_1.length c0_1, .int .u64 a0_2, .slice A0_3 l0_3.length c0_3] 135)) hg (by omega))
  have C8 := Lib.hid (blk_keep (blk_alloc B8.out (.cells #[.slice A0_0 l0_0.length c0_0, .slice A0_1 l0_1.length c0_1, .int .u64 a0_2, .slice A0_3 l0_3.length c0_3] 135)) hg (by omega))
  have CW := Lib.hid hbk
  have CB := Lib.hid (below_of_grown CD.out hg CH.out.size CD.out.size)
  rw [World.size_alloc] at hR2 hND
  have RW := Lib.hid hR2
  have OW := Lib.hid hOw
  have SZ := Lib.hid (show w.heap.size + 1 < y1.heap.size ∧ y1.heap.size < ND ∧ y1.heap.size < y2.heap.size from ⟨L8, hND, sblk_lt hbk⟩)
  clear CH B4 B8 hg hbk hR2 hOw hND L8 CD q4_0 q4_1 q4_2 q4_3
  generalize y1.heap.size = gw at CW RW OW SZ ⊢
  clear y1
  have q4_0 := (sblk_cell C4.out 0).trans rfl
  have q4_1 := (sblk_cell C4.out 1).trans rfl
  have q4_2 := (sblk_cell C4.out 2).trans rfl
  have q4_3 := (sblk_cell C4.out 3).trans rfl
  go_wp2_with (fail)
  have WN := Lib.hid (fun x : Int => show 0 ≤ IntKind.u64.wrap x by (simp [IntKind.wrap, IntKind.bits, IntKind.signed]; omega))
  have M0 := Lib.hid (show UnI okI w y2 #[.slice A0_0 l0_0.length c0_0, .slice A0_1 l0_1.length c0_1, .int .u64 a0_2, .slice A0_3 l0_3.length c0_3] gw ND a0_2 A3 c3 (delS l0_3 a n) (l0_0, dropC l0_1 a0_2 a n) from ⟨CB.out, C4.out, C8.out, ⟨A0, c0, A1, c1, CW.out, RW.out.wide (fun k hk => hk.1.imp id (fun h => h))⟩, OW.out, FF.out.clear (WN.out _) (WN.out _)⟩)
  clear C4 C8 CW RW OW CB q4_0 q4_1 q4_2 q4_3
  have HQ := HR.out
  unfold gUnmapS at HQ
  rw [if_neg (by rw [HW.out]; decide)] at HQ
  cases HQ
  clear HR
  have RP := Lib.hid (rises_filter pgK (fun x => !inP x a n) SS.out)
  have LQ := Lib.hid (Nat.le_trans (delS_len l0_3 a n) LP.out)
  have e2 : delS l0_3 a n = l0_3.filter (fun x => !inP x a n) := rfl
  rw [← e2] at RP
  clear e2
  generalize hp2 : delS l0_3 a n = p2 at M0 RP LQ ⊢
  generalize hm2 : dropC l0_1 a0_2 a n = m2 at M0 ⊢
  have EP := Lib.hid hp2
  have EM := Lib.hid hm2
  clear hp2 hm2
  go_loopw [10, 11, 26] (fun t10 t11 t26 wr => ∃ k : Nat, t26 = .int .i64 k ∧ k ≤ l0_3.length ∧ Hid (UnI okI w wr #[.slice A0_0 l0_0.length c0_0, .slice A0_1 l0_1.length c0_1, .int .u64 a0_2, .slice A0_3 l0_3.length c0_3] gw ND a0_2 A3 c3 p2 (unmapLoop p2 a0_2 (l0_3.take k) (l0_0, m2)))) (fun _ _ t26 _ => l0_3.length - (intOf t26).toNat)
  case atStart => exact ⟨0, rfl, Nat.zero_le _, M0⟩
  case round =>
    obtain ⟨k, rfl, hk, M⟩ := hrel
    have hpl := LP.out
    by_cases hlt : k < l0_3.length
    · skip
      have HST := Lib.hid (unmapLoop_snoc p2 a0_2 hlt (l0_0, m2))
      obtain ⟨ad, hA, cx0, cx1⟩ := at_T41 (Kd.C_below RG.out.r3 M.out.bel) (k : Int) (by omega) (by omega)
      subst hA
      rw [pg_getR hlt, Int.toNat_natCast] at cx0 cx1
      generalize l0_3[k] = x at HST cx0 cx1
      generalize unmapLoop p2 a0_2 (l0_3.take k) (l0_0, m2) = st at M HST
      have M1 := Lib.hid (M.out.below (below_new wr (.cells #[.int .u32 x.f0, .int .i64 x.f1] 41)))
      have X1 := Lib.hid (blk_new wr (.cells #[.int .u32 x.f0, .int .i64 x.f1] 41))
      have q4_0 := (sblk_cell M1.out.c4 0).trans rfl
      have q4_1 := (sblk_cell M1.out.c4 1).trans rfl
      have q4_2 := (sblk_cell M1.out.c4 2).trans rfl
      have q4_3 := (sblk_cell M1.out.c4 3).trans rfl
      have qx_0 := (sblk_cell X1.out 0).trans rfl
      have qx_1 := (sblk_cell X1.out 1).trans rfl
      go_wp2_with (fail)
      refine (gHostOf_any.calls _ _ _ _ _ _ _ _ _ _ _ _).mono ?_
      rintro e w3 ⟨rfl, hb3⟩
      have M3 := Lib.hid (M1.out.below hb3)
      clear hb3 M1 X1 M q4_0 q4_1 q4_2 q4_3 qx_0 qx_1 cx0 cx1
      obtain ⟨E0, d0, E1, d1, hcw, hrw⟩ := M3.out.cw
      have CW := Lib.hid hcw
      have RW := Lib.hid hrw
      clear hcw hrw
      have qW_0 := (sblk_cell CW.out 0).trans rfl
      have qW_1 := (sblk_cell CW.out 1).trans rfl
      have qW_2 := (sblk_cell CW.out 2).trans rfl
      have qW_3 := (sblk_cell CW.out 3).trans rfl
      go_wp2_with (fail)
      refine (guest_used.calls E0 d0 st.1 E1 d1 st.2 a0_2 A3 c3 p2 (hoS a0_2 x.f0) _ w3 (Kd.V_reads' RW.out.1).2.2 (Kd.V_reads' RW.out.1).2.1 (Kd.V_reads' RW.out.2).2.2 (Kd.V_reads' RW.out.2).2.1 M3.out.ow.C.1 M3.out.ow.C.2 (used_f _ _ _ (Nat.le_trans LQ.out (by decide)) RP.out _)).mono ?_
      rintro e w4 ⟨rfl, hb4⟩
      have M4 := Lib.hid (M3.out.below hb4)
      have C4 := Lib.hid (blk_below CW.out hb4)
      have R4 := Lib.hid (RW.out.below hb4)
      have S4 := Lib.hid (sblk_lt C4.out)
      clear hb4 M3 CW RW qW_0 qW_1 qW_2 qW_3
      cases hu : usedS p2 a0_2 (hoS a0_2 x.f0)
      rotate_left
      · go_wp2
        exact ⟨⟨k + 1, by go_num, hlt, Lib.hid (by rw [HST.out]; unfold unmapStep; rw [if_pos hu]; exact M4.out)⟩, by simp [intOf]; omega⟩
      have q4_0 := (sblk_cell C4.out 0).trans rfl
      have q4_1 := (sblk_cell C4.out 1).trans rfl
      have q4_2 := (sblk_cell C4.out 2).trans rfl
      have q4_3 := (sblk_cell C4.out 3).trans rfl
      have f4_0 := sblk_free C4.out 0
      have f4_1 := sblk_free C4.out 1
      go_wp2_with (fail)
      refine (gHUnmap_V R4.out M4.out.fit _ (hoS_range _ _).1 (Int.le_trans (hoS_range _ _).2 (by decide))).mono ?_
      rintro e w5 ⟨A', c', B', d', rfl, hR5, hb5⟩
      have hf := M4.out.fit.unmap (hoS a0_2 x.f0) 1
      have M5 := Lib.hid (M4.out.below hb5)
      have C5 := Lib.hid (blk_below C4.out hb5)
      have R5 := Lib.hid (hR5.wide (ok' := fun k => (okI k ∧ k < w.heap.size) ∨ gw + 1 ≤ k) (fun k hk => hk.1.elim id (fun h => .inr (by have h4 := S4.out; omega))))
      have F5 := Lib.hid hf
      have HU := Lib.hid hu
      clear hf hR5 hb5 hu M4 C4 R4 q4_0 q4_1 q4_2 q4_3 f4_0 f4_1
      have q5_0 := (sblk_cell C5.out 0).trans rfl
      have q5_1 := (sblk_cell C5.out 1).trans rfl
      have q5_2 := (sblk_cell C5.out 2).trans rfl
      have q5_3 := (sblk_cell C5.out 3).trans rfl
      have f5_0 := sblk_free C5.out 0
      have f5_1 := sblk_free C5.out 1
      go_wp2
      have MP := M5.out.put SZ.out.1 SZ.out.2.1 C5.out R5.out F5.out
      exact ⟨⟨k + 1, by go_num, hlt, Lib.hid (by rw [HST.out]; unfold unmapStep; rw [if_neg (by rw [HU.out]; decide)]; exact MP)⟩, by simp [intOf]; omega⟩
    obtain rfl : k = l0_3.length := by omega
    rw [List.take_of_length_le (Nat.le_refl _)] at M
    obtain ⟨E0, d0, E1, d1, hcw, hrw⟩ := M.out.cw
    have CW := Lib.hid hcw
    have RW := Lib.hid hrw
    have C8 := Lib.hid M.out.c8
    generalize hst : unmapLoop p2 a0_2 l0_3 (l0_0, m2) = st at M CW RW ⊢
    have ES := Lib.hid hst
    clear hcw hrw hst
    have qW_0 := (sblk_cell CW.out 0).trans rfl
    have qW_1 := (sblk_cell CW.out 1).trans rfl
    have qW_2 := (sblk_cell CW.out 2).trans rfl
    have qW_3 := (sblk_cell CW.out 3).trans rfl
    have q8_0 := (sblk_cell C8.out 0).trans rfl
    have q8_1 := (sblk_cell C8.out 1).trans rfl
    have q8_2 := (sblk_cell C8.out 2).trans rfl
    have q8_3 := (sblk_cell C8.out 3).trans rfl
    have f8_0 := sblk_free C8.out 0
    have f8_1 := sblk_free C8.out 1
    have f8_2 := sblk_free C8.out 2
    have f8_3 := sblk_free C8.out 3
    go_wp2
    obtain ⟨u8, uk, ub⟩ := ret_put4 C8.out (.slice E0 st.1.length d0) (.slice E1 st.2.length d1) (.int .u64 a0_2) (.slice A3 p2.length c3)
    have re0 := (sblk_cell u8 0).trans rfl
    have re1 := (sblk_cell u8 1).trans rfl
    have re2 := (sblk_cell u8 2).trans rfl
    have re3 := (sblk_cell u8 3).trans rfl
    have hB := M.out.bel.trans (ub w.heap.size (by omega))
    have z := SZ.out
    have hR := RW.out.move (fun j hj _ => uk j (by omega))
    have hO := M.out.ow.move (fun j hj _ => uk j (by omega))
    have h1 := ES.out
    subst h1
    have h2 := EM.out
    subst h2
    have h3 := EP.out
    subst h3
    exact bodyPost_ret (v := .tuple #[.agg #[.slice E0 (unmapLoop (delS l0_3 a n) a0_2 l0_3 (l0_0, dropC l0_1 a0_2 a n)).1.length d0, .slice E1 (unmapLoop (delS l0_3 a n) a0_2 l0_3 (l0_0, dropC l0_1 a0_2 a n)).2.length d1, .int .u64 a0_2, .slice A3 (delS l0_3 a n).length c3], .int .i64 0]) (by simp [results, Try.results65, go_sem, re0, re1, re2, re3]) rfl ⟨E0, d0, E1, d1, A3, c3, rfl, ⟨(hR.wide (ok' := fun k => okI k ∨ w.heap.size ≤ k) (fun k hk => hk.elim (fun h => .inl h.1) (fun h => .inr (by omega)))).1, (hR.wide (ok' := fun k => okI k ∨ w.heap.size ≤ k) (fun k hk => hk.elim (fun h => .inl h.1) (fun h => .inr (by omega)))).2, Kd.V_mono hO.V (fun k hk => .inr (by omega))⟩, hB⟩
end Go.Proofs.Ytgkjdpdmmlalcaa.F
end
section
namespace Go.Proofs.Ytgkjdpdmmlalcaa.F
open Go.RowKit Go.Shelf Go.Proofs.YtgkjdpdmmlalcaaW.PrintWords Go.Proofs.YtgkjdpdmmlalcaaW.PrintLast Go.Proofs.YtgkjdpdmmlalcaaW.PrintMore
set_option linter.unusedVariables false
def okGH (l : List SM) (m : List SC) (p : List SP) (a n : Int) : Bool := okH l m && (fitB l m && (risesB pgK p && decide (p.length ≤ 256 ∧ 0 ≤ a ∧ a < 4294967296 ∧ 0 ≤ n ∧ n < 4294967296)))
theorem okGH_of {l : List SM} {m : List SC} {p : List SP} {a n : Int} (h : okGH l m p a n = true) : FitH l m ∧ Rises pgK p ∧ p.length ≤ 256 ∧ 0 ≤ a ∧ a < 4294967296 ∧ 0 ≤ n ∧ n < 4294967296 := by
  unfold okGH at h
  rw [Bool.and_eq_true, Bool.and_eq_true, Bool.and_eq_true, decide_eq_true_eq] at h
  have hw := okH_wf h.1
  exact ⟨(fitB_iff hw.1 hw.2).1 h.2.1, (risesB_iff p).1 h.2.2.1, h.2.2.2⟩
theorem okGH_ok {l : List SM} {m : List SC} {p : List SP} {a n : Int} (hF : FitH l m) (hr : Rises pgK p) (hp : p.length ≤ 256) (a0 : 0 ≤ a) (a1 : a < 4294967296) (n0 : 0 ≤ n) (n1 : n < 4294967296) : okGH l m p a n = true := by
  unfold okGH
  rw [okH_of hF.wl hF.wm, (fitB_iff hF.wl hF.wm).2 hF, (risesB_iff p).2 hr, decide_eq_true ⟨hp, a0, a1, n0, n1⟩]
  rfl
-- HAND fn=ferry/guest.Map ; rounds=0 ; making=1 ; laid=0 ; share=0_0,0_1,0_3 ; views=0,1,3
def guest_Map.f (l0_0 : List SM) (l0_1 : List SC) (a0_2 : Int) (l0_3 : List SP) (a1 a2 a3 : Int) : Option (List SM × List SC × Int × List SP × Int) :=
  if okGH l0_0 l0_1 l0_3 a1 a2 = true then some ((gMapS l0_0 l0_1 a0_2 l0_3 a1 a2 a3).1, (gMapS l0_0 l0_1 a0_2 l0_3 a1 a2 a3).2.1, a0_2, (gMapS l0_0 l0_1 a0_2 l0_3 a1 a2 a3).2.2.1, (gMapS l0_0 l0_1 a0_2 l0_3 a1 a2 a3).2.2.2) else none
theorem guest_Map.calls (P0_0_ : Nat → Prop) (A0_0 : Option Addr) (c0_0 : Nat) (l0_0 : List SM) (P0_1_ : Nat → Prop) (A0_1 : Option Addr) (c0_1 : Nat) (l0_1 : List SC) (a0_2 : Int) (P0_3_ : Nat → Prop) (A0_3 : Option Addr) (c0_3 : Nat) (l0_3 : List SP) (a1 a2 a3 : Int) (r1 : List SM) (r2 : List SC) (r3 : Int) (r4 : List SP) (r5 : Int) (w : World) (hs0_0 : Kd.V kM 83 w w.heap.size (fun k_ => P0_0_ k_) (.slice A0_0 l0_0.length c0_0) l0_0) (hs0_1 : Kd.V kC 88 w w.heap.size (fun k_ => P0_1_ k_) (.slice A0_1 l0_1.length c0_1) l0_1) (hs0_3 : Kd.V kP 41 w w.heap.size (fun k_ => P0_3_ k_) (.slice A0_3 l0_3.length c0_3) l0_3) (h : guest_Map.f l0_0 l0_1 a0_2 l0_3 a1 a2 a3 = some (r1, r2, r3, r4, r5)) :
    Calls Try.prog 64 #[.agg #[.slice A0_0 l0_0.length c0_0, .slice A0_1 l0_1.length c0_1, .int .u64 a0_2, .slice A0_3 l0_3.length c0_3], .int .u32 a1, .int .u32 a2, .int .i64 a3] w fun e w' => ∃ v0_ v1_ v3_ : Value, e = .returned (.tuple #[.agg #[v0_, v1_, .int .u64 r3, v3_], .int .i64 r5]) ∧ Kd.V kM 83 w' w.heap.size (fun k_ => ((P0_0_ k_ ∨ P0_1_ k_ ∨ P0_3_ k_) ∨ w.heap.size ≤ k_)) v0_ r1 ∧ Kd.V kC 88 w' w.heap.size (fun k_ => ((P0_0_ k_ ∨ P0_1_ k_ ∨ P0_3_ k_) ∨ w.heap.size ≤ k_)) v1_ r2 ∧ Kd.V kP 41 w' w.heap.size (fun k_ => ((P0_0_ k_ ∨ P0_1_ k_ ∨ P0_3_ k_) ∨ w.heap.size ≤ k_)) v3_ r4 ∧ Below w.heap.size w w' := by
  unfold guest_Map.f at h
  split at h
  rotate_left
  · cases h
  rename_i hc
  obtain ⟨hF, hr, hp, h1, h2, h3, h4⟩ := okGH_of hc
  simp only [Option.some.injEq, Prod.mk.injEq] at h
  obtain ⟨rfl, rfl, rfl, rfl, rfl⟩ := h
  refine (gMap_A A0_0 c0_0 l0_0 A0_1 c0_1 l0_1 a0_2 A0_3 c0_3 l0_3 a1 a2 a3 w (fun k_ => P0_0_ k_ ∨ P0_1_ k_ ∨ P0_3_ k_) ⟨Kd.V_mono hs0_0 (fun k hk => .inl hk), Kd.V_mono hs0_1 (fun k hk => .inr (.inl hk)), Kd.V_mono hs0_3 (fun k hk => .inr (.inr hk))⟩ hF hr hp h1 h2 h3 h4 rfl).mono ?_
  rintro e w' ⟨B0, d0, B1, d1, B3, d3, he, hV, hb⟩
  exact ⟨_, _, _, he, hV.1, hV.2.1, hV.2.2, hb⟩
-- HAND fn=ferry/guest.Unmap ; rounds=0 ; making=1 ; laid=0 ; share=0_0,0_1,0_3 ; views=0,1,3
def guest_Unmap.f (l0_0 : List SM) (l0_1 : List SC) (a0_2 : Int) (l0_3 : List SP) (a1 a2 : Int) : Option (List SM × List SC × Int × List SP × Int) :=
  if okGH l0_0 l0_1 l0_3 a1 a2 = true then some ((gUnmapS l0_0 l0_1 a0_2 l0_3 a1 a2).1, (gUnmapS l0_0 l0_1 a0_2 l0_3 a1 a2).2.1, a0_2, (gUnmapS l0_0 l0_1 a0_2 l0_3 a1 a2).2.2.1, (gUnmapS l0_0 l0_1 a0_2 l0_3 a1 a2).2.2.2) else none
theorem guest_Unmap.calls (P0_0_ : Nat → Prop) (A0_0 : Option Addr) (c0_0 : Nat) (l0_0 : List SM) (P0_1_ : Nat → Prop) (A0_1 : Option Addr) (c0_1 : Nat) (l0_1 : List SC) (a0_2 : Int) (P0_3_ : Nat → Prop) (A0_3 : Option Addr) (c0_3 : Nat) (l0_3 : List SP) (a1 a2 : Int) (r1 : List SM) (r2 : List SC) (r3 : Int) (r4 : List SP) (r5 : Int) (w : World) (hs0_0 : Kd.V kM 83 w w.heap.size (fun k_ => P0_0_ k_) (.slice A0_0 l0_0.length c0_0) l0_0) (hs0_1 : Kd.V kC 88 w w.heap.size (fun k_ => P0_1_ k_) (.slice A0_1 l0_1.length c0_1) l0_1) (hs0_3 : Kd.V kP 41 w w.heap.size (fun k_ => P0_3_ k_) (.slice A0_3 l0_3.length c0_3) l0_3) (h : guest_Unmap.f l0_0 l0_1 a0_2 l0_3 a1 a2 = some (r1, r2, r3, r4, r5)) :
    Calls Try.prog 65 #[.agg #[.slice A0_0 l0_0.length c0_0, .slice A0_1 l0_1.length c0_1, .int .u64 a0_2, .slice A0_3 l0_3.length c0_3], .int .u32 a1, .int .u32 a2] w fun e w' => ∃ v0_ v1_ v3_ : Value, e = .returned (.tuple #[.agg #[v0_, v1_, .int .u64 r3, v3_], .int .i64 r5]) ∧ Kd.V kM 83 w' w.heap.size (fun k_ => ((P0_0_ k_ ∨ P0_1_ k_ ∨ P0_3_ k_) ∨ w.heap.size ≤ k_)) v0_ r1 ∧ Kd.V kC 88 w' w.heap.size (fun k_ => ((P0_0_ k_ ∨ P0_1_ k_ ∨ P0_3_ k_) ∨ w.heap.size ≤ k_)) v1_ r2 ∧ Kd.V kP 41 w' w.heap.size (fun k_ => ((P0_0_ k_ ∨ P0_1_ k_ ∨ P0_3_ k_) ∨ w.heap.size ≤ k_)) v3_ r4 ∧ Below w.heap.size w w' := by
  unfold guest_Unmap.f at h
  split at h
  rotate_left
  · cases h
  rename_i hc
  obtain ⟨hF, hr, hp, h1, h2, h3, h4⟩ := okGH_of hc
  simp only [Option.some.injEq, Prod.mk.injEq] at h
  obtain ⟨rfl, rfl, rfl, rfl, rfl⟩ := h
  refine (gUnmap_A A0_0 c0_0 l0_0 A0_1 c0_1 l0_1 a0_2 A0_3 c0_3 l0_3 a1 a2 w (fun k_ => P0_0_ k_ ∨ P0_1_ k_ ∨ P0_3_ k_) ⟨Kd.V_mono hs0_0 (fun k hk => .inl hk), Kd.V_mono hs0_1 (fun k hk => .inr (.inl hk)), Kd.V_mono hs0_3 (fun k hk => .inr (.inr hk))⟩ hF hr hp h1 h2 h3 h4 rfl).mono ?_
  rintro e w' ⟨B0, d0, B1, d1, B3, d3, he, hV, hb⟩
  exact ⟨_, _, _, he, hV.1, hV.2.1, hV.2.2, hb⟩
end Go.Proofs.Ytgkjdpdmmlalcaa.F
end
section
namespace Go.Proofs.Ytgkjdpdmmlalcaa.F
open Go.RowKit Go.Shelf Go.Proofs.YtgkjdpdmmlalcaaW.PrintWords Go.Proofs.YtgkjdpdmmlalcaaW.PrintLast Go.Proofs.YtgkjdpdmmlalcaaW.PrintMore
set_option linter.unusedVariables false
set_option linter.unusedSimpArgs false
attribute [local go_sem] Oper.semAt_some
def inQ (x : SP) (a n : Int) : Bool := decide (IntKind.u32.wrap (x.f0 - a) < n) && decide (x.f0 ≥ a)
set_option maxHeartbeats 4000000 in
theorem gsome_1.calls (x : SP) (pa pn : Nat) (a n : Int) (w : World) (h1 : w.heap[pa]? = some (.cells #[.int .u32 a] 30 (0, 0))) (h2 : w.heap[pn]? = some (.cells #[.int .u32 n] 30 (0, 0))) :
    Calls Try.prog 91 #[.agg #[.int .u32 x.f0, .int .i64 x.f1], .pointer (some ⟨pa, 0, none⟩), .pointer (some ⟨pn, 0, none⟩)] w fun e w' => e = .returned (.bool (inQ x a n)) ∧ Below w.heap.size w w' := by
  have B0 : Below w.heap.size w (w.alloc (.cells #[.int .u32 x.f0, .int .i64 x.f1] 41)) := (Below.refl _ w).alloc (Nat.le_refl _) _
  have c1 := (B0.cell (p := ⟨pa, 0, none⟩) (sblk_lt h1)).trans ((sblk_cell h1 0).trans rfl)
  have c2 := (B0.cell (p := ⟨pn, 0, none⟩) (sblk_lt h2)).trans ((sblk_cell h2 0).trans rfl)
  have TB := Lib.hid B0
  have hu := Try.underlying41
  clear h1 h2 B0
  generalize hF : inQ x a n = r
  have EF := Lib.hid hF
  clear hF
  go_enter Try.func91, Try.ntmps91
  have EF2 := EF.out
  unfold inQ at EF2
  have hs : (x.f0 - a) % 4294967296 = IntKind.u32.wrap (x.f0 - a) := rfl
  by_cases ht : IntKind.u32.wrap (x.f0 - a) < n
  all_goals
    first | rw [decide_eq_true ht] at EF2 | rw [decide_eq_false ht] at EF2
    have EF3 := Lib.hid EF2
    clear EF2 EF
    go_wp2
    go_ret
    exact ⟨by rw [← EF3.out]; first | rfl | simp, TB.out⟩
-- HAND fn=ferry/gmap.some ; rounds=0 ; making=1 ; laid=0
def gmap_some.f (l0_0 : List SM) (l0_1 : List SC) (a0_2 : Int) (l0_3 : List SP) (a1 a2 : Int) : Option Bool := if l0_3.length ≤ 1000000 then some (l0_3.any (fun x => inQ x a1 a2)) else none
set_option maxHeartbeats 8000000 in
set_option maxRecDepth 100000 in
theorem gmap_some.calls (A0_0 : Option Addr) (c0_0 : Nat) (l0_0 : List SM) (A0_1 : Option Addr) (c0_1 : Nat) (l0_1 : List SC) (a0_2 : Int) (A0_3 : Option Addr) (c0_3 : Nat) (l0_3 : List SP) (a1 a2 : Int) (r : Bool) (w : World) (hr0_0 : Kd.C kM w A0_0 l0_0.length l0_0) (hc0_0 : l0_0.length ≤ c0_0) (hr0_1 : Kd.C kC w A0_1 l0_1.length l0_1) (hc0_1 : l0_1.length ≤ c0_1) (hr0_3 : Kd.C kP w A0_3 l0_3.length l0_3) (hc0_3 : l0_3.length ≤ c0_3) (h : gmap_some.f l0_0 l0_1 a0_2 l0_3 a1 a2 = some r) :
    Calls Try.prog 63 #[.agg #[.slice A0_0 l0_0.length c0_0, .slice A0_1 l0_1.length c0_1, .int .u64 a0_2, .slice A0_3 l0_3.length c0_3], .int .u32 a1, .int .u32 a2] w fun e w' => e = .returned (.bool r) ∧ Below w.heap.size w w' := by
  unfold gmap_some.f at h
  split at h
  case isFalse => cases h
  rename_i hl
  have EF := Lib.hid (Option.some.inj h)
  clear h
  have A1 := Lib.hid (fun W (hB : Below w.heap.size w W) (hx : W.heap[w.heap.size + 1]? = some (.cells #[.int .u32 a1] 30 (0, 0))) (hy : W.heap[w.heap.size + 2]? = some (.cells #[.int .u32 a2] 30 (0, 0))) => pg_any.calls (fun x => inQ x a1 a2) 91 #[.pointer (some ⟨w.heap.size + 1, 0, none⟩), .pointer (some ⟨w.heap.size + 2, 0, none⟩)] (fun _ _ => by kernel_rfl) A0_3 c0_3 l0_3 W (Kd.C_below hr0_3 hB) hc0_3 hl (fun x W' hb' => gsome_1.calls x (w.heap.size + 1) (w.heap.size + 2) a1 a2 W' (blk_below hx hb') (blk_below hy hb')))
  clear hr0_0 hr0_1 hr0_3 hl
  have hu := Try.underlying29
  have hu3 := Try.underlying25
  have CH := Lib.hid (show Chain [w] w from ⟨Below.refl _ _, trivial⟩)
  go_enter Try.func63, Try.ntmps63
  go_upto_region 1 with (fail)
  replace CH := Lib.hid (((CH.out.alloc (.cells #[.slice A0_0 l0_0.length c0_0, .slice A0_1 l0_1.length c0_1, .int .u64 a0_2, .slice A0_3 l0_3.length c0_3] 29)).alloc (.cells #[.int .u32 a1] 30)).alloc (.cells #[.int .u32 a2] 30))
  have BK1 := Lib.hid (blk_alloc (blk_alloc (blk_new w (.cells #[.slice A0_0 l0_0.length c0_0, .slice A0_1 l0_1.length c0_1, .int .u64 a0_2, .slice A0_3 l0_3.length c0_3] 29)) (.cells #[.int .u32 a1] 30)) (.cells #[.int .u32 a2] 30))
  have BK2 := Lib.hid (blk_alloc (blk_new1 w (.cells #[.slice A0_0 l0_0.length c0_0, .slice A0_1 l0_1.length c0_1, .int .u64 a0_2, .slice A0_3 l0_3.length c0_3] 29) (.cells #[.int .u32 a1] 30)) (.cells #[.int .u32 a2] 30))
  have BK3 := Lib.hid (show (((w.alloc (.cells #[.slice A0_0 l0_0.length c0_0, .slice A0_1 l0_1.length c0_1, .int .u64 a0_2, .slice A0_3 l0_3.length c0_3] 29)).alloc (.cells #[.int .u32 a1] 30)).alloc (.cells #[.int .u32 a2] 30)).heap[w.heap.size + 2]? = some (.cells #[.int .u32 a2] 30 (0, 0)) from by
    have h := blk_new1 (w.alloc (.cells #[.slice A0_0 l0_0.length c0_0, .slice A0_1 l0_1.length c0_1, .int .u64 a0_2, .slice A0_3 l0_3.length c0_3] 29)) (.cells #[.int .u32 a1] 30) (.cells #[.int .u32 a2] 30)
    rwa [World.size_alloc] at h)
  generalize ((w.alloc (.cells #[.slice A0_0 l0_0.length c0_0, .slice A0_1 l0_1.length c0_1, .int .u64 a0_2, .slice A0_3 l0_3.length c0_3] 29)).alloc (.cells #[.int .u32 a1] 30)).alloc (.cells #[.int .u32 a2] 30) = y1 at CH BK1 BK2 BK3 ⊢
  have q1_0 := (box_cell BK1.out (Below.refl _ _) 0).trans rfl
  have q1_1 := (box_cell BK1.out (Below.refl _ _) 1).trans rfl
  have q1_2 := (box_cell BK1.out (Below.refl _ _) 2).trans rfl
  have q1_3 := (box_cell BK1.out (Below.refl _ _) 3).trans rfl
  go_wp2_with (first | (go_at_call 90; (with_reducible refine (A1.out _ CH.out.head BK2.out BK3.out).mono ?_); rintro e wx ⟨rfl, hb⟩; replace CH := Lib.hid (CH.out.step hb); clear hb))
  go_ret
  exact ⟨by rw [EF.out]; rfl, CH.out.head⟩
end Go.Proofs.Ytgkjdpdmmlalcaa.F
end
