import Derived.Test.YtjhfglpgpicmiaaVZF0
import Derived.Test.YtjhfglpgpicmiaaVA0
import Derived.Test.YtjhfglpgpicmiaaVA3
import Derived.Test.YtjhfglpgpicmiaaVA6HHost3
import Derived.Test.YtjhfglpgpicmiaaVA9
import Derived.Test.YtjhfglpgpicmiaaVA11
import Derived.Test.YtjhfglpgpicmiaaVA14
import Derived.Test.YtjhfglpgpicmiaaVA16
import Derived.Test.YtjhfglpgpicmiaaVA21HGuest4
import Derived.Test.YtjhfglpgpicmiaaVA22
import Derived.Test.YtjhfglpgpicmiaaVA23HGuest7
section
namespace Go.Proofs.Ytjhfglpgpicmiaa.F
open Go.RowKit Go.Shelf Go.Proofs.YtjhfglpgpicmiaaW.PrintWords Go.Proofs.YtjhfglpgpicmiaaW.PrintLast Go.Proofs.YtjhfglpgpicmiaaW.PrintMore
set_option linter.unusedVariables false
set_option linter.unusedSimpArgs false
def unmapStep (p2 : List SP) (b : Int) (st : List SM × List SC) (x : SP) : List SM × List SC :=
  if usedS p2 b (hoS b x.f0) = true then st else ((unmapS st.1 st.2 (hoS b x.f0) 1).1, (unmapS st.1 st.2 (hoS b x.f0) 1).2.1)
def unmapLoop (p2 : List SP) (b : Int) (p : List SP) (st : List SM × List SC) : List SM × List SC := p.foldl (unmapStep p2 b) st
theorem unmapLoop_snoc (p2 : List SP) (b : Int) {p : List SP} {k : Nat} (h : k < p.length) (st : List SM × List SC) : unmapLoop p2 b (p.take (k + 1)) st = unmapStep p2 b (unmapLoop p2 b (p.take k) st) p[k] := by
  rw [List.take_succ_eq_append_getElem h]
  unfold unmapLoop
  rw [List.foldl_append]
  rfl
def gUnmapS (l : List SM) (m : List SC) (b : Int) (p : List SP) (a n : Int) : List SM × List SC × List SP × Int :=
  if gwrongS a n 0 = true then (l, m, p, 22) else ((unmapLoop (delS p a n) b p (l, dropC m b a n)).1, (unmapLoop (delS p a n) b p (l, dropC m b a n)).2, delS p a n, 0)
theorem gHUnmap_V {W : World} {ok : Nat → Prop} {A0 A1 : Option Addr} {c0 c1 : Nat} {l : List SM} {m : List SC} (hH : RowsH W ok A0 c0 A1 c1 l m) (hF : FitH l m) (a : Int) (a0 : 0 ≤ a) (a1 : a ≤ 18446744073709551615) :
    Calls Try.prog 35 #[.agg #[.slice A0 l.length c0, .slice A1 m.length c1], .int .u64 a, .int .u64 1] W fun e w' => ∃ A' c' B' d', e = .returned (.tuple #[.agg #[.slice A' (unmapS l m a 1).1.length c', .slice B' (unmapS l m a 1).2.1.length d'], .int .i64 (unmapS l m a 1).2.2]) ∧ RowsH w' (fun k => (ok k ∨ W.heap.size ≤ k) ∧ k < w'.heap.size) A' c' B' d' (unmapS l m a 1).1 (unmapS l m a 1).2.1 ∧ Below W.heap.size W w' := by
  refine (host_Unmap.calls ok A0 c0 l ok A1 c1 m a 1 _ _ _ W hH.1 hH.2 (host_Unmap_spec l m hF.wm (by have := hF.ln; omega) (by have := hF.mn; omega) a0 a1 (by decide))).mono ?_
  rintro e w' ⟨x, y, he, h0, h1, hb⟩
  obtain ⟨A', c', B', d', rfl, rfl, h⟩ := RowsH.swap h0 h1
  exact ⟨A', c', B', d', he, h.bound.wide (fun k hk => ⟨hk.1.imp (fun h => h.elim id id) id, hk.2⟩), hb⟩
structure UnI (okI : Nat → Prop) (w W : World) (gv : Array Value) (gw ND : Nat) (b : Int) (A3 : Option Addr) (c3 : Nat) (p2 : List SP) (st : List SM × List SC) : Prop where
  bel : Below w.heap.size w W
  c4 : W.heap[w.heap.size]? = some (.cells gv 29 (0, 0))
  c8 : W.heap[w.heap.size + 1]? = some (.cells #[.slice none 0 0, .slice none 0 0, .int .u64 0, .slice none 0 0] 29 (0, 0))
  cw : ∃ A0 c0 A1 c1, W.heap[gw]? = some (.cells #[.slice A0 st.1.length c0, .slice A1 st.2.length c1, .int .u64 b, .slice A3 p2.length c3] 64 (0, 0)) ∧ RowsH W (fun k => (okI k ∧ k < w.heap.size) ∨ gw + 1 ≤ k) A0 c0 A1 c1 st.1 st.2
  ow : OwnP W ND A3 c3 p2
  fit : FitH st.1 st.2
section
variable {okI : Nat → Prop} {w W W' : World} {gv : Array Value} {gw ND : Nat} {b : Int} {A3 : Option Addr} {c3 : Nat} {p2 : List SP} {st : List SM × List SC}
theorem UnI.below (h : UnI okI w W gv gw ND b A3 c3 p2 st) (hb : Below W.heap.size W W') : UnI okI w W' gv gw ND b A3 c3 p2 st := by
  obtain ⟨A0, c0, A1, c1, hc, hR⟩ := h.cw
  exact ⟨h.bel.trans (hb.mono h.bel.size), blk_below h.c4 hb, blk_below h.c8 hb, ⟨A0, c0, A1, c1, blk_below hc hb, hR.below hb⟩, h.ow.move (fun k _ hk => hb.block k hk), h.fit⟩
theorem UnI.put {A0 A1 : Option Addr} {c0 c1 : Nat} {x y : Value} {l' : List SM} {m' : List SC} (h : UnI okI w W gv gw ND b A3 c3 p2 st) (hz : w.heap.size + 1 < gw) (hN : gw < ND) (hc : W.heap[gw]? = some (.cells #[x, y, .int .u64 b, .slice A3 p2.length c3] 64 (0, 0)))
    (hR : RowsH W (fun k => (okI k ∧ k < w.heap.size) ∨ gw + 1 ≤ k) A0 c0 A1 c1 l' m') (hF : FitH l' m') : UnI okI w ((W.setCell ⟨gw, 0, none⟩ (.slice A0 l'.length c0)).setCell ⟨gw, 1, none⟩ (.slice A1 m'.length c1)) gv gw ND b A3 c3 p2 (l', m') :=
  ⟨(h.bel.setCell (p := ⟨gw, 0, none⟩) (by show w.heap.size ≤ gw; omega) _).setCell (p := ⟨gw, 1, none⟩) (by show w.heap.size ≤ gw; omega) _, blk_far2 h.c4 (by omega) _ _, blk_far2 h.c8 (by omega) _ _,
    ⟨A0, c0, A1, c1, blk_put (blk_put hc 0 _ rfl) 1 _ rfl, hR.move (fun k hk _ => (set_far (by omega)).trans (set_far (by omega)))⟩, h.ow.move (fun k hk _ => (set_far (by omega)).trans (set_far (by omega))), hF⟩
end
theorem ret_put4 {y : World} {b8 : Nat} {T : TypeId} {x0 x1 x2 x3 : Value} (h8 : y.heap[b8]? = some (.cells #[x0, x1, x2, x3] T (0, 0))) (v0 v1 v2 v3 : Value) :
    ((((y.setCell ⟨b8, 0, none⟩ v0).setCell ⟨b8, 1, none⟩ v1).setCell ⟨b8, 2, none⟩ v2).setCell ⟨b8, 3, none⟩ v3).heap[b8]? = some (.cells #[v0, v1, v2, v3] T (0, 0)) ∧
    (∀ k, k ≠ b8 → ((((y.setCell ⟨b8, 0, none⟩ v0).setCell ⟨b8, 1, none⟩ v1).setCell ⟨b8, 2, none⟩ v2).setCell ⟨b8, 3, none⟩ v3).heap[k]? = y.heap[k]?) ∧
    (∀ n, n ≤ b8 → Below n y ((((y.setCell ⟨b8, 0, none⟩ v0).setCell ⟨b8, 1, none⟩ v1).setCell ⟨b8, 2, none⟩ v2).setCell ⟨b8, 3, none⟩ v3)) :=
  ⟨blk_put (blk_put (blk_put (blk_put h8 0 v0 rfl) 1 v1 rfl) 2 v2 rfl) 3 v3 rfl, fun k h1 => (set_far h1).trans ((set_far h1).trans ((set_far h1).trans (set_far h1))),
   fun n h1 => ((((Below.refl n y).setCell h1 _).setCell h1 _).setCell h1 _).setCell h1 _⟩

set_option maxHeartbeats 8000000 in
set_option maxRecDepth 100000 in
theorem gUnmap_A (A0_0 : Option Addr) (c0_0 : Nat) (l0_0 : List SM) (A0_1 : Option Addr) (c0_1 : Nat) (l0_1 : List SC) (a0_2 : Int) (A0_3 : Option Addr) (c0_3 : Nat) (l0_3 : List SP) (a n : Int) (w : World) (okI : Nat → Prop) (hR : RowsG w okI A0_0 c0_0 A0_1 c0_1 A0_3 c0_3 l0_0 l0_1 l0_3) (hF : FitH l0_0 l0_1) (hs : Rises pgK l0_3) (hp : l0_3.length ≤ 256) (ha : 0 ≤ a) (ha2 : a < 4294967296) (hn : 0 ≤ n) (hn2 : n < 4294967296) {r1 : List SM} {r2 : List SC} {r3 : List SP} {r4 : Int} (hr : gUnmapS l0_0 l0_1 a0_2 l0_3 a n = (r1, r2, r3, r4)) :
    Calls Try.prog 11 #[.agg #[.slice A0_0 l0_0.length c0_0, .slice A0_1 l0_1.length c0_1, .int .u64 a0_2, .slice A0_3 l0_3.length c0_3], .int .u32 a, .int .u32 n] w (RetA w okI r1 r2 a0_2 r3 (fun g => .tuple #[g, .int .i64 r4])) := by
  have hu := Try.underlying64
  have hu2 := Try.underlying29
  have hu3 := Try.underlying25
  have hu4 := Try.underlying39
  have FF := Lib.hid hF
  have SS := Lib.hid hs
  have LP := Lib.hid hp
  have NA := Lib.hid (And.intro ha ha2)
  have NN := Lib.hid (And.intro hn hn2)
  have RG := Lib.hid hR.bound
  have HR := Lib.hid hr
  clear hF hs hp ha ha2 hn hn2 hR hr
  have WR := Lib.hid (fun w => guest_wrong.calls a n 0 _ w (gwrong_some a n 0))
  have CH := Lib.hid (show Chain [w] w from ⟨Below.refl _ _, trivial⟩)
  go_enter Try.func11, Try.ntmps11
  go_wp2_with (fail)
  refine (WR.out _).mono ?_
  rintro e wx ⟨rfl, ⟨nd, rfl⟩⟩
  replace CH := Lib.hid (pw_below_drewN ((CH.out.head.alloc (Nat.le_refl _) (.cells #[.slice A0_0 l0_0.length c0_0, .slice A0_1 l0_1.length c0_1, .int .u64 a0_2, .slice A0_3 l0_3.length c0_3] 29)).alloc (by simp) (.cells #[.slice none 0 0, .slice none 0 0, .int .u64 0, .slice none 0 0] 29)) nd)
  have B4 := Lib.hid (show (World.drewN ((w.alloc (.cells #[.slice A0_0 l0_0.length c0_0, .slice A0_1 l0_1.length c0_1, .int .u64 a0_2, .slice A0_3 l0_3.length c0_3] 29)).alloc (.cells #[.slice none 0 0, .slice none 0 0, .int .u64 0, .slice none 0 0] 29)) nd).heap[w.heap.size]? = some (.cells #[.slice A0_0 l0_0.length c0_0, .slice A0_1 l0_1.length c0_1, .int .u64 a0_2, .slice A0_3 l0_3.length c0_3] 29 (0, 0)) from blk_alloc (blk_new w _) _)
  have B8 := Lib.hid (show (World.drewN ((w.alloc (.cells #[.slice A0_0 l0_0.length c0_0, .slice A0_1 l0_1.length c0_1, .int .u64 a0_2, .slice A0_3 l0_3.length c0_3] 29)).alloc (.cells #[.slice none 0 0, .slice none 0 0, .int .u64 0, .slice none 0 0] 29)) nd).heap[w.heap.size + 1]? = some (.cells #[.slice none 0 0, .slice none 0 0, .int .u64 0, .slice none 0 0] 29 (0, 0)) from blk_new1 w _ _)
  generalize World.drewN ((w.alloc (.cells #[.slice A0_0 l0_0.length c0_0, .slice A0_1 l0_1.length c0_1, .int .u64 a0_2, .slice A0_3 l0_3.length c0_3] 29)).alloc (.cells #[.slice none 0 0, .slice none 0 0, .int .u64 0, .slice none 0 0] 29)) nd = y1 at CH B4 B8 ⊢
  cases hw : gwrongS a n 0
  rotate_left
  · skip
    have HQ := HR.out
    unfold gUnmapS at HQ
    rw [if_pos hw] at HQ
    cases HQ
    have q4_0 := (sblk_cell B4.out 0).trans rfl
    have q4_1 := (sblk_cell B4.out 1).trans rfl
    have q4_2 := (sblk_cell B4.out 2).trans rfl
    have q4_3 := (sblk_cell B4.out 3).trans rfl
    have q8_0 := (sblk_cell B8.out 0).trans rfl
    have q8_1 := (sblk_cell B8.out 1).trans rfl
    have q8_2 := (sblk_cell B8.out 2).trans rfl
    have q8_3 := (sblk_cell B8.out 3).trans rfl
    have f8_0 := sblk_free B8.out 0
    have f8_1 := sblk_free B8.out 1
    have f8_2 := sblk_free B8.out 2
    have f8_3 := sblk_free B8.out 3
    go_wp2
    obtain ⟨u8, uk, ub⟩ := ret_put4 B8.out (.slice A0_0 l0_0.length c0_0) (.slice A0_1 l0_1.length c0_1) (.int .u64 a0_2) (.slice A0_3 l0_3.length c0_3)
    have re0 := (sblk_cell u8 0).trans rfl
    have re1 := (sblk_cell u8 1).trans rfl
    have re2 := (sblk_cell u8 2).trans rfl
    have re3 := (sblk_cell u8 3).trans rfl
    have hB := CH.out.trans (ub w.heap.size (by omega))
    have hV := (RG.out.below hB).wide (ok' := fun k => okI k ∨ w.heap.size ≤ k) (fun k hk => .inl hk.1)
    exact bodyPost_ret (v := .tuple #[.agg #[.slice A0_0 l0_0.length c0_0, .slice A0_1 l0_1.length c0_1, .int .u64 a0_2, .slice A0_3 l0_3.length c0_3], .int .i64 22]) (by simp [results, Try.results11, go_sem, re0, re1, re2, re3]) rfl ⟨_, _, _, _, _, _, rfl, hV, hB⟩
  have HW := Lib.hid hw
  clear hw WR
  have q4_0 := (sblk_cell B4.out 0).trans rfl
  have q4_1 := (sblk_cell B4.out 1).trans rfl
  have q4_2 := (sblk_cell B4.out 2).trans rfl
  have q4_3 := (sblk_cell B4.out 3).trans rfl
  go_wp2_with (fail)
  have CD := Lib.hid (CH.out.alloc CH.out.size (.cells #[.slice A0_0 l0_0.length c0_0, .slice A0_1 l0_1.length c0_1, .int .u64 a0_2, .slice A0_3 l0_3.length c0_3] 64))
  refine (gDrop.calls y1.heap.size A0_0 c0_0 l0_0 A0_1 c0_1 l0_1 a0_2 A0_3 c0_3 l0_3 a n (fun k => okI k ∧ k < w.heap.size) (y1.alloc (.cells #[.slice A0_0 l0_0.length c0_0, .slice A0_1 l0_1.length c0_1, .int .u64 a0_2, .slice A0_3 l0_3.length c0_3] 64)) (fun k hk e => by have := CH.out.size; omega) (blk_new y1 _) (RG.out.below CD.out) (Nat.le_trans FF.out.mn (by decide)) (Nat.le_trans LP.out (by decide))).mono ?_
  rintro e y2 ⟨rfl, hg, ND, A0, c0, A1, c1, A3, c3, hND, hbk, hR2, hOw⟩
  have L8 := sblk_lt B8.out
  have C4 := Lib.hid (blk_keep (blk_alloc B4.out (.cells #[.slice A0_0 l0_0.length c0_0, .slice A0_1 l0_1.length c0_1, .int .u64 a0_2, .slice A0_3 l0_3.length c0_3] 64)) hg (by omega))
  have C8 := Lib.hid (blk_keep (blk_alloc B8.out (.cells #[.slice A0_0 l0_0.length c0_0, .slice A0_1 l0_1.length c0_1, .int .u64 a0_2, .slice A0_3 l0_3.length c0_3] 64)) hg (by omega))
  have CW := Lib.hid hbk
  have CB := Lib.hid (below_of_grown CD.out hg CH.out.size CD.out.size)
  rw [World.size_alloc] at hR2 hND
  have RW := Lib.hid hR2
  have OW := Lib.hid hOw
  have SZ := Lib.hid (show w.heap.size + 1 < y1.heap.size ∧ y1.heap.size < ND ∧ y1.heap.size < y2.heap.size from ⟨L8, hND, sblk_lt hbk⟩)
  clear CH B4 B8 hg hbk hR2 hOw hND L8 CD q4_0 q4_1 q4_2 q4_3
  generalize y1.heap.size = gw at CW RW OW SZ ⊢
  clear y1
  have q4_0 := (sblk_cell C4.out 0).trans rfl
  have q4_1 := (sblk_cell C4.out 1).trans rfl
  have q4_2 := (sblk_cell C4.out 2).trans rfl
  have q4_3 := (sblk_cell C4.out 3).trans rfl
  go_wp2_with (fail)
  have WN := Lib.hid (fun x : Int => show 0 ≤ IntKind.u64.wrap x by (simp [IntKind.wrap, IntKind.bits, IntKind.signed]; omega))
  have M0 := Lib.hid (show UnI okI w y2 #[.slice A0_0 l0_0.length c0_0, .slice A0_1 l0_1.length c0_1, .int .u64 a0_2, .slice A0_3 l0_3.length c0_3] gw ND a0_2 A3 c3 (delS l0_3 a n) (l0_0, dropC l0_1 a0_2 a n) from ⟨CB.out, C4.out, C8.out, ⟨A0, c0, A1, c1, CW.out, RW.out.wide (fun k hk => hk.1.imp id (fun h => h))⟩, OW.out, FF.out.clear (WN.out _) (WN.out _)⟩)
  clear C4 C8 CW RW OW CB q4_0 q4_1 q4_2 q4_3
  have HQ := HR.out
  unfold gUnmapS at HQ
  rw [if_neg (by rw [HW.out]; decide)] at HQ
  cases HQ
  clear HR
  have RP := Lib.hid (rises_filter pgK (fun x => !inP x a n) SS.out)
  have LQ := Lib.hid (Nat.le_trans (delS_len l0_3 a n) LP.out)
  have e2 : delS l0_3 a n = l0_3.filter (fun x => !inP x a n) := rfl
  rw [← e2] at RP
  clear e2
  generalize hp2 : delS l0_3 a n = p2 at M0 RP LQ ⊢
  generalize hm2 : dropC l0_1 a0_2 a n = m2 at M0 ⊢
  have EP := Lib.hid hp2
  have EM := Lib.hid hm2
  clear hp2 hm2
  go_loopw [10, 11, 26] (fun t10 t11 t26 wr => ∃ k : Nat, t26 = .int .i64 k ∧ k ≤ l0_3.length ∧ Hid (UnI okI w wr #[.slice A0_0 l0_0.length c0_0, .slice A0_1 l0_1.length c0_1, .int .u64 a0_2, .slice A0_3 l0_3.length c0_3] gw ND a0_2 A3 c3 p2 (unmapLoop p2 a0_2 (l0_3.take k) (l0_0, m2)))) (fun _ _ t26 _ => l0_3.length - (intOf t26).toNat)
  case atStart => exact ⟨0, rfl, Nat.zero_le _, M0⟩
  case round =>
    obtain ⟨k, rfl, hk, M⟩ := hrel
    have hpl := LP.out
    by_cases hlt : k < l0_3.length
    · skip
      have HST := Lib.hid (unmapLoop_snoc p2 a0_2 hlt (l0_0, m2))
      obtain ⟨ad, hA, cx0, cx1⟩ := at_T39 (Kd.C_below RG.out.r3 M.out.bel) (k : Int) (by omega) (by omega)
      subst hA
      rw [pg_getR hlt, Int.toNat_natCast] at cx0 cx1
      generalize l0_3[k] = x at HST cx0 cx1
      generalize unmapLoop p2 a0_2 (l0_3.take k) (l0_0, m2) = st at M HST
      have M1 := Lib.hid (M.out.below (below_new wr (.cells #[.int .u32 x.f0, .int .i64 x.f1] 39)))
      have X1 := Lib.hid (blk_new wr (.cells #[.int .u32 x.f0, .int .i64 x.f1] 39))
      have q4_0 := (sblk_cell M1.out.c4 0).trans rfl
      have q4_1 := (sblk_cell M1.out.c4 1).trans rfl
      have q4_2 := (sblk_cell M1.out.c4 2).trans rfl
      have q4_3 := (sblk_cell M1.out.c4 3).trans rfl
      have qx_0 := (sblk_cell X1.out 0).trans rfl
      have qx_1 := (sblk_cell X1.out 1).trans rfl
      go_wp2_with (fail)
      refine (gHostOf_any.calls _ _ _ _ _ _ _ _ _ _ _ _).mono ?_
      rintro e w3 ⟨rfl, hb3⟩
      have M3 := Lib.hid (M1.out.below hb3)
      clear hb3 M1 X1 M q4_0 q4_1 q4_2 q4_3 qx_0 qx_1 cx0 cx1
      obtain ⟨E0, d0, E1, d1, hcw, hrw⟩ := M3.out.cw
      have CW := Lib.hid hcw
      have RW := Lib.hid hrw
      clear hcw hrw
      have qW_0 := (sblk_cell CW.out 0).trans rfl
      have qW_1 := (sblk_cell CW.out 1).trans rfl
      have qW_2 := (sblk_cell CW.out 2).trans rfl
      have qW_3 := (sblk_cell CW.out 3).trans rfl
      go_wp2_with (fail)
      refine (guest_used.calls E0 d0 st.1 E1 d1 st.2 a0_2 A3 c3 p2 (hoS a0_2 x.f0) _ w3 (Kd.V_reads' RW.out.1).2.2 (Kd.V_reads' RW.out.1).2.1 (Kd.V_reads' RW.out.2).2.2 (Kd.V_reads' RW.out.2).2.1 M3.out.ow.C.1 M3.out.ow.C.2 (used_f _ _ _ (Nat.le_trans LQ.out (by decide)) RP.out _)).mono ?_
      rintro e w4 ⟨rfl, hb4⟩
      have M4 := Lib.hid (M3.out.below hb4)
      have C4 := Lib.hid (blk_below CW.out hb4)
      have R4 := Lib.hid (RW.out.below hb4)
      have S4 := Lib.hid (sblk_lt C4.out)
      clear hb4 M3 CW RW qW_0 qW_1 qW_2 qW_3
      cases hu : usedS p2 a0_2 (hoS a0_2 x.f0)
      rotate_left
      · go_wp2
        exact ⟨⟨k + 1, by go_num, hlt, Lib.hid (by rw [HST.out]; unfold unmapStep; rw [if_pos hu]; exact M4.out)⟩, by simp [intOf]; omega⟩
      have q4_0 := (sblk_cell C4.out 0).trans rfl
      have q4_1 := (sblk_cell C4.out 1).trans rfl
      have q4_2 := (sblk_cell C4.out 2).trans rfl
      have q4_3 := (sblk_cell C4.out 3).trans rfl
      have f4_0 := sblk_free C4.out 0
      have f4_1 := sblk_free C4.out 1
      go_wp2_with (fail)
      refine (gHUnmap_V R4.out M4.out.fit _ (hoS_range _ _).1 (Int.le_trans (hoS_range _ _).2 (by decide))).mono ?_
      rintro e w5 ⟨A', c', B', d', rfl, hR5, hb5⟩
      have hf := M4.out.fit.unmap (hoS a0_2 x.f0) 1
      have M5 := Lib.hid (M4.out.below hb5)
      have C5 := Lib.hid (blk_below C4.out hb5)
      have R5 := Lib.hid (hR5.wide (ok' := fun k => (okI k ∧ k < w.heap.size) ∨ gw + 1 ≤ k) (fun k hk => hk.1.elim id (fun h => .inr (by have h4 := S4.out; omega))))
      have F5 := Lib.hid hf
      have HU := Lib.hid hu
      clear hf hR5 hb5 hu M4 C4 R4 q4_0 q4_1 q4_2 q4_3 f4_0 f4_1
      have q5_0 := (sblk_cell C5.out 0).trans rfl
      have q5_1 := (sblk_cell C5.out 1).trans rfl
      have q5_2 := (sblk_cell C5.out 2).trans rfl
      have q5_3 := (sblk_cell C5.out 3).trans rfl
      have f5_0 := sblk_free C5.out 0
      have f5_1 := sblk_free C5.out 1
      go_wp2
      have MP := M5.out.put SZ.out.1 SZ.out.2.1 C5.out R5.out F5.out
      exact ⟨⟨k + 1, by go_num, hlt, Lib.hid (by rw [HST.out]; unfold unmapStep; rw [if_neg (by rw [HU.out]; decide)]; exact MP)⟩, by simp [intOf]; omega⟩
    obtain rfl : k = l0_3.length := by omega
    rw [List.take_of_length_le (Nat.le_refl _)] at M
    obtain ⟨E0, d0, E1, d1, hcw, hrw⟩ := M.out.cw
    have CW := Lib.hid hcw
    have RW := Lib.hid hrw
    have C8 := Lib.hid M.out.c8
    generalize hst : unmapLoop p2 a0_2 l0_3 (l0_0, m2) = st at M CW RW ⊢
    have ES := Lib.hid hst
    clear hcw hrw hst
    have qW_0 := (sblk_cell CW.out 0).trans rfl
    have qW_1 := (sblk_cell CW.out 1).trans rfl
    have qW_2 := (sblk_cell CW.out 2).trans rfl
    have qW_3 := (sblk_cell CW.out 3).trans rfl
    have q8_0 := (sblk_cell C8.out 0).trans rfl
    have q8_1 := (sblk_cell C8.out 1).trans rfl
    have q8_2 := (sblk_cell C8.out 2).trans rfl
    have q8_3 := (sblk_cell C8.out 3).trans rfl
    have f8_0 := sblk_free C8.out 0
    have f8_1 := sblk_free C8.out 1
    have f8_2 := sblk_free C8.out 2
    have f8_3 := sblk_free C8.out 3
    go_wp2
    obtain ⟨u8, uk, ub⟩ := ret_put4 C8.out (.slice E0 st.1.length d0) (.slice E1 st.2.length d1) (.int .u64 a0_2) (.slice A3 p2.length c3)
    have re0 := (sblk_cell u8 0).trans rfl
    have re1 := (sblk_cell u8 1).trans rfl
    have re2 := (sblk_cell u8 2).trans rfl
    have re3 := (sblk_cell u8 3).trans rfl
    have hB := M.out.bel.trans (ub w.heap.size (by omega))
    have z := SZ.out
    have hR := RW.out.move (fun j hj _ => uk j (by omega))
    have hO := M.out.ow.move (fun j hj _ => uk j (by omega))
    have h1 := ES.out
    subst h1
    have h2 := EM.out
    subst h2
    have h3 := EP.out
    subst h3
    exact bodyPost_ret (v := .tuple #[.agg #[.slice E0 (unmapLoop (delS l0_3 a n) a0_2 l0_3 (l0_0, dropC l0_1 a0_2 a n)).1.length d0, .slice E1 (unmapLoop (delS l0_3 a n) a0_2 l0_3 (l0_0, dropC l0_1 a0_2 a n)).2.length d1, .int .u64 a0_2, .slice A3 (delS l0_3 a n).length c3], .int .i64 0]) (by simp [results, Try.results11, go_sem, re0, re1, re2, re3]) rfl ⟨E0, d0, E1, d1, A3, c3, rfl, ⟨(hR.wide (ok' := fun k => okI k ∨ w.heap.size ≤ k) (fun k hk => hk.elim (fun h => .inl h.1) (fun h => .inr (by omega)))).1, (hR.wide (ok' := fun k => okI k ∨ w.heap.size ≤ k) (fun k hk => hk.elim (fun h => .inl h.1) (fun h => .inr (by omega)))).2, Kd.V_mono hO.V (fun k hk => .inr (by omega))⟩, hB⟩
theorem gUnmap_c (A0_0 : Option Addr) (c0_0 : Nat) (l0_0 : List SM) (A0_1 : Option Addr) (c0_1 : Nat) (l0_1 : List SC) (a0_2 : Int) (A0_3 : Option Addr) (c0_3 : Nat) (l0_3 : List SP) (a n : Int) (w : World) (hr0_0 : Kd.C k55 w A0_0 l0_0.length l0_0) (hc0_0 : l0_0.length ≤ c0_0) (hr0_1 : Kd.C k60 w A0_1 l0_1.length l0_1) (hc0_1 : l0_1.length ≤ c0_1) (hr0_3 : Kd.C k39 w A0_3 l0_3.length l0_3) (hc0_3 : l0_3.length ≤ c0_3) (hF : FitH l0_0 l0_1) (hs : Rises pgK l0_3) (hp : l0_3.length ≤ 256) (ha : 0 ≤ a) (ha2 : a < 4294967296) (hn : 0 ≤ n) (hn2 : n < 4294967296) {r1 : List SM} {r2 : List SC} {r3 : List SP} {r4 : Int} (hr : gUnmapS l0_0 l0_1 a0_2 l0_3 a n = (r1, r2, r3, r4)) :
    Calls Try.prog 11 #[.agg #[.slice A0_0 l0_0.length c0_0, .slice A0_1 l0_1.length c0_1, .int .u64 a0_2, .slice A0_3 l0_3.length c0_3], .int .u32 a, .int .u32 n] w (RetG w r1 r2 a0_2 r3 (fun g => .tuple #[g, .int .i64 r4])) :=
  (gUnmap_A _ _ _ _ _ _ _ _ _ _ a n w _ (RowsG.of hr0_0 hc0_0 hr0_1 hc0_1 hr0_3 hc0_3) hF hs hp ha ha2 hn hn2 hr).mono (fun _ _ h => h.G)

end Go.Proofs.Ytjhfglpgpicmiaa.F
end
