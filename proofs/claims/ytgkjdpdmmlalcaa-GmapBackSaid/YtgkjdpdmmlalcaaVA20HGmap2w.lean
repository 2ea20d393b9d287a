import Derived.Test.YtgkjdpdmmlalcaaVZF0
import Derived.Test.YtgkjdpdmmlalcaaVA0
import Derived.Test.YtgkjdpdmmlalcaaVA4HHost3
import Derived.Test.YtgkjdpdmmlalcaaVA11
import Derived.Test.YtgkjdpdmmlalcaaVA13
import Derived.Test.YtgkjdpdmmlalcaaVA14HGuest4
import Derived.Test.YtgkjdpdmmlalcaaVA15
import Derived.Test.YtgkjdpdmmlalcaaVA16HGuest7
import Derived.Test.YtgkjdpdmmlalcaaVA17
import Derived.Test.YtgkjdpdmmlalcaaVA19
section
namespace Go.Proofs.Ytgkjdpdmmlalcaa.F
open Go.RowKit Go.Shelf Go.Proofs.YtgkjdpdmmlalcaaW.PrintWords Go.Proofs.YtgkjdpdmmlalcaaW.PrintLast Go.Proofs.YtgkjdpdmmlalcaaW.PrintMore
set_option linter.unusedVariables false
set_option linter.unusedSimpArgs false
attribute [local go_sem] Oper.semAt_some
def muV (w : World) : Option Value → Nat
  | some (Value.pointer (some d)) => (match w.cell? d with
    | some (Value.int _ e) => e.toNat
    | _ => 0)
  | _ => 0
def muR (a : Act) (w : World) : Nat := muV w (a.tmps[6]?)
def KmR (z : Nat) (I : World → Prop) (W W' : World) : Prop := (I W → I W') ∧ ∀ k o, z + 2 ≤ k → W.heap[k]? = some o → W'.heap[k]? = some o
structure RoI (w0 : World) (Bn Bs Bl Bh : Nat) (gv : Array Value) (n low high : Int) (p : List SP) (J : List (Int × Bool) → World → Prop) (z : Nat) (E : Nat) (e : Int) (pre : List (Int × Bool)) (ds : List Nat) (w : World) : Prop where
  hm : MInv w0 Bn Bs Bl Bh gv n low high w
  he : w.heap[E]? = some (.cells #[.int .u32 e] 30 (0, 0))
  ez : z ≤ E
  hj : J pre w
  hl : pre.length + e.toNat ≤ 458752
  hr : RoomE p low high n e
  nd : ds.Nodup
  hd : ∀ D ∈ ds, z ≤ D ∧ w.heap[D]? = some (.deferred (some []))
theorem MInv.set {w0 : World} {Bn Bs Bl Bh : Nat} {gv : Array Value} {n low high : Int} {W : World} (h : MInv w0 Bn Bs Bl Bh gv n low high W) {E : Nat} (v : Value) (he : w0.heap.size ≤ E ∧ Bn ≠ E ∧ Bs ≠ E ∧ Bl ≠ E ∧ Bh ≠ E) : MInv w0 Bn Bs Bl Bh gv n low high (W.setCell ⟨E, 0, none⟩ v) :=
  ⟨h.bel.setCell (p := ⟨E, 0, none⟩) he.1 _, blk_far (p := ⟨E, 0, none⟩) h.bn he.2.1 _, blk_far (p := ⟨E, 0, none⟩) h.bs he.2.2.1 _, blk_far (p := ⟨E, 0, none⟩) h.bl he.2.2.2.1 _, blk_far (p := ⟨E, 0, none⟩) h.bh he.2.2.2.2 _⟩
set_option maxHeartbeats 8000000 in
set_option maxRecDepth 100000 in
theorem gRoom1_any (w0 : World) (l Bn Bs Bl Bh : Nat) (A0 : Option Addr) (c0 : Nat) (l0 : List SM) (A1 : Option Addr) (c1 : Nat) (l1 : List SC) (b : Int) (A3 : Option Addr) (c3 : Nat) (p : List SP) (st en n low high : Int)
    (hr : Kd.C kP w0 A3 p.length p) (hc : p.length ≤ c3) (hp : p.length ≤ 1000000) (n0 : 0 ≤ n) (n1 : n < 4294967296) (lo0 : 0 ≤ low) (J Jx : List (Int × Bool) → World → Prop)
    (hT : ∀ pre V, J pre V → ∀ x ∈ pre, x.2 = false) (z : Nat)
    (hY : ∀ pre (x : Int × Bool) W, J pre W → pre.length < 458753 → YieldAt Fence.wide (5 - 1) Try.prog l #[.int .u32 x.1, .bool x.2] W fun e W' =>
      (e = .returned (.bool true) ∧ J (pre ++ [x]) W' ∧ KmR z (MInv w0 Bn Bs Bl Bh #[.slice A0 l0.length c0, .slice A1 l1.length c1, .int .u64 b, .slice A3 p.length c3, .int .u32 st, .int .u32 en] n low high) W W') ∨ (e = .returned (.bool false) ∧ Jx (pre ++ [x]) W' ∧ ∀ k o, z + 2 ≤ k → W.heap[k]? = some o → o.isCells = false → W'.heap[k]? = some o))
    (W : World) (hz : z + 2 ≤ W.heap.size) (hI : MInv w0 Bn Bs Bl Bh #[.slice A0 l0.length c0, .slice A1 l1.length c1, .int .u64 b, .slice A3 p.length c3, .int .u32 st, .int .u32 en] n low high W) (hJ : StaysB W.heap.size J) (hJx : StaysB W.heap.size Jx) (h0 : J [] W) :
    CallsIn Fence.wide 5 Try.prog 138 #[.func (.yield l) #[] #[], .pointer (some ⟨Bn, 0, none⟩), .pointer (some ⟨Bs, 0, none⟩), .pointer (some ⟨Bl, 0, none⟩), .pointer (some ⟨Bh, 0, none⟩)] W fun e W' => (∃ v, e = .returned v) ∧
      ((∃ ys, (∀ k, 458752 < k → freeGo p low high n k 458752 = some (0, false)) ∧ J ys W') ∨ (∃ pre, (∃ pre' x, pre = pre' ++ [x] ∧ (x.2 = true → ∀ k, 458752 < k → freeGo p low high n k 458752 = some (x.1, true))) ∧ Jx pre W')) := by
  have HY := Lib.hid hY
  have HI := Lib.hid hI
  have HJ0 := Lib.hid h0
  have HR := Lib.hid hr
  have HP := Lib.hid hp
  have HJ := Lib.hid hJ
  have HX := Lib.hid hJx
  have HT := Lib.hid hT
  have NN := Lib.hid (And.intro n0 (And.intro n1 lo0))
  have HZ := Lib.hid hz
  have NB := Lib.hid (show w0.heap.size ≤ W.heap.size ∧ Bn < W.heap.size ∧ Bs < W.heap.size ∧ Bl < W.heap.size ∧ Bh < W.heap.size from ⟨HI.out.bel.size, sblk_lt HI.out.bn, sblk_lt HI.out.bs, sblk_lt HI.out.bl, sblk_lt HI.out.bh⟩)
  clear hY hI h0 hr hp hJ hJx hT n0 n1 lo0 hz
  have hu := Try.underlying41
  have hus := Try.underlying63
  have hug := Try.underlying29
  refine callsIn_of_wp_marks Try.func138 rfl trivial ?_ rfl
  simp only [Try.ntmps138, List.size_toArray, List.length_cons, List.length_nil, Nat.reduceAdd, Nat.reduceSub, Array.replicate_succ, Array.replicate_zero, List.push_toArray, List.append_toArray, List.nil_append, List.cons_append]
  gi_wp2
  refine wpIn_loop (fun a w => ∃ (e : Int) (E : Nat) (pre : List (Int × Bool)) (u7 u8 u9 u10 u11 u12 u13 u14 u15 u16 u17 u18 u19 u20 u21 u22 u23 u24 u25 u26 u27 u28 u29 u30 u31 u32 u33 u34 u35 u36 u37 u38 u39 u40 u41 u42 u43 u44 u45 u46 u47 u48 u49 u50 u51 u52 u53 u54 u55 u56 u57 u58 u59 u60 : Value) (ds : List Nat), a = { tmps := #[.func (.yield l) #[] #[], .pointer (some ⟨Bn, 0, none⟩), .pointer (some ⟨Bs, 0, none⟩), .pointer (some ⟨Bl, 0, none⟩), .pointer (some ⟨Bh, 0, none⟩), undef, .pointer (some ⟨E, 0, none⟩), u7, u8, u9, u10, u11, u12, u13, u14, u15, u16, u17, u18, u19, u20, u21, u22, u23, u24, u25, u26, u27, u28, u29, u30, u31, u32, u33, u34, u35, u36, u37, u38, u39, u40, u41, u42, u43, u44, u45, u46, u47, u48, u49, u50, u51, u52, u53, u54, u55, u56, u57, u58, u59, u60], defers := ds.map (fun D => { target := .collected D, args := #[] }) } ∧ RoI w0 Bn Bs Bl Bh #[.slice A0 l0.length c0, .slice A1 l1.length c1, .int .u64 b, .slice A3 p.length c3, .int .u32 st, .int .u32 en] n low high p J W.heap.size E e pre ds w) muR ?_ ?_
  · refine ⟨458752, W.heap.size, [], undef, undef, undef, undef, undef, undef, undef, undef, undef, undef, undef, undef, undef, undef, undef, undef, undef, undef, undef, undef, undef, undef, undef, undef, undef, undef, undef, undef, undef, undef, undef, undef, undef, undef, undef, undef, undef, undef, undef, undef, undef, undef, undef, undef, undef, undef, undef, undef, undef, undef, undef, undef, undef, undef, [], ?_, ?_⟩
    · rfl
    · have hb := below_new W (.cells #[.int .u32 458752] 30)
      exact ⟨HI.out.below hb, blk_new W _, Nat.le_refl _, HJ.out _ _ _ HJ0.out hb, by simp, RoomE.start _ _ _ _, List.nodup_nil, fun D h => by cases h⟩
  · rintro a wr ⟨e, E, pre, u7, u8, u9, u10, u11, u12, u13, u14, u15, u16, u17, u18, u19, u20, u21, u22, u23, u24, u25, u26, u27, u28, u29, u30, u31, u32, u33, u34, u35, u36, u37, u38, u39, u40, u41, u42, u43, u44, u45, u46, u47, u48, u49, u50, u51, u52, u53, u54, u55, u56, u57, u58, u59, u60, ds, rfl, hI⟩
    have II := Lib.hid hI
    clear hI HI HJ0
    have qe := (sblk_cell II.out.he 0).trans rfl
    have qn := (sblk_cell II.out.hm.bn 0).trans rfl
    by_cases hlt : n < e
    · have hd := decide_eq_true (show e > n from hlt)
      have qe1 := (sblk_cell (blk_alloc II.out.he (.cells #[.int .u32 ((e - n) % 4294967296)] 30)) 0).trans rfl
      have BS := Lib.hid (blk_alloc (blk_alloc II.out.hm.bs (.cells #[.int .u32 ((e - n) % 4294967296)] 30)) (.cells #[.int .u32 e] 30))
      have qs0 := (sblk_cell BS.out 0).trans rfl
      have qs1 := (sblk_cell BS.out 1).trans rfl
      have qs2 := (sblk_cell BS.out 2).trans rfl
      have qs3 := (sblk_cell BS.out 3).trans rfl
      have qs4 := (sblk_cell BS.out 4).trans rfl
      have qs5 := (sblk_cell BS.out 5).trans rfl
      gi_wp2_with (refine ⟨trivial, ?_⟩; gi_at_call 139; refine (callsIn_wide.2 (gBack.calls _ A3 p.length c3 rfl _)).mono ?_; rintro e w' ⟨rfl, rfl⟩)
      have hf : (e - n) % 4294967296 = e - n := by
        have h1 := NN.out
        have h2 := II.out.hr.2.1
        omega
      rw [hf] at BS ⊢
      have hds := II.out.hr
      clear qe1 qs0 qs1 qs2 qs3 qs4 qs5 qe qn
      have O2 : Obj := .cells #[.int .u32 e] 30
      have D0 := Lib.hid (((Below.refl _ wr).alloc (Nat.le_refl _) (.cells #[.int .u32 (e - n)] 30)).alloc (by simp) (.cells #[.int .u32 e] 30) |>.alloc (by simp; omega) (.cells #[.slice A3 p.length c3] 27))
      have F7 := Lib.hid (blk_alloc (blk_alloc (blk_new wr (.cells #[.int .u32 (e - n)] 30)) (.cells #[.int .u32 e] 30)) (.cells #[.slice A3 p.length c3] 27))
      have F8 := Lib.hid (blk_alloc (blk_new1 wr (.cells #[.int .u32 (e - n)] 30) (.cells #[.int .u32 e] 30)) (.cells #[.slice A3 p.length c3] 27))
      have F9 := Lib.hid (show (((wr.alloc (.cells #[.int .u32 (e - n)] 30)).alloc (.cells #[.int .u32 e] 30)).alloc (.cells #[.slice A3 p.length c3] 27)).heap[wr.heap.size + 1 + 1]? = some (.cells #[.slice A3 p.length c3] 27 (0, 0)) from by
        have h := blk_new1 (wr.alloc (.cells #[.int .u32 (e - n)] 30)) (.cells #[.int .u32 e] 30) (.cells #[.slice A3 p.length c3] 27)
        rwa [World.size_alloc] at h)
      have Z9 := Lib.hid (show (((wr.alloc (.cells #[.int .u32 (e - n)] 30)).alloc (.cells #[.int .u32 e] 30)).alloc (.cells #[.slice A3 p.length c3] 27)).heap.size = wr.heap.size + 3 by simp)
      clear BS O2 hds
      generalize ((wr.alloc (.cells #[.int .u32 (e - n)] 30)).alloc (.cells #[.int .u32 e] 30)).alloc (.cells #[.slice A3 p.length c3] 27) = y2 at D0 F7 F8 F9 Z9 ⊢
      have B0 := Lib.hid (show BInv w0 (wr.heap.size + 1 + 1) (.slice A3 p.length c3) y2 from ⟨II.out.hm.bel.trans (D0.out.mono II.out.hm.bel.size), F9.out⟩)
      refine' rangeFunc_X rfl (by omega) (gf := 158) (lb := #[.pointer (some ⟨wr.heap.size + 1 + 1, 0, none⟩)]) rfl trivial (enters_of Try.func158 (by kernel_rfl) rfl)
        (gBack_stopsX (5 - 1) w0 (wr.heap.size + 1 + 1) A3 c3 p HR.out hc HP.out y2 B0.out) (fun h k x => k (h x)) (fun V o o' => binv_b (w := y2) (by have := B0.out.bel.size; exact this) V _ o o' (Nat.le_succ _)) (fun _ => rfl)
        (fun is V => Below wr.heap.size wr V ∧ V.heap[wr.heap.size]? = some (.cells #[.int .u32 (e - n)] 30 (0, 0)) ∧ V.heap[wr.heap.size + 1]? = some (.cells #[.int .u32 (nextI p (e - n) e is)] 30 (0, 0)))
        (fun c is V => False) (fun _ _ _ => trivial)
        (fun is A B row hs hg hr => ⟨hs.1.grown hg hs.1.size (fun k ek => by have := (hr k ek).1; have := Z9.out; omega), blk_own hs.2.1 hg (fun r er => (hr r er).2), blk_own hs.2.2 hg (fun r er => (hr r er).2)⟩)
        (fun c is A B row hs hg hr => hs)
        (fun is A B hs hb => ⟨hs.1.trans (hb.mono (by have := Z9.out; omega)), (hb.block _ (by have := Z9.out; omega)).trans hs.2.1, (hb.block _ (by have := Z9.out; omega)).trans hs.2.2⟩) (fun c is A B hs hb => hs) ⟨D0.out, F7.out, F8.out⟩
        (fun x V => { tmps := #[.func (.yield l) #[] #[], .pointer (some ⟨Bn, 0, none⟩), .pointer (some ⟨Bs, 0, none⟩), .pointer (some ⟨Bl, 0, none⟩), .pointer (some ⟨Bh, 0, none⟩), undef, .pointer (some ⟨E, 0, none⟩), .pointer (some ⟨wr.heap.size, 0, none⟩), .pointer (some ⟨wr.heap.size + 1, 0, none⟩), u9, .pointer (some ⟨V.heap.size, 0, none⟩), .int .u32 e, .int .u32 n, .bool true, .int .u32 e, .int .u32 n, .int .u32 (e - n), .int .u32 e, .pointer (some ⟨Bs, 0, none⟩), .pointer (some ⟨Bs, 3, none⟩), .slice A3 p.length c3, .func (.func 158) #[] #[.pointer (some ⟨wr.heap.size + 1 + 1, 0, none⟩)], .int .i64 (x : Int), .agg #[.int .u32 (rd_T41 p (x : Int)).f0, .int .i64 (rd_T41 p (x : Int)).f1], u24, u25, u26, u27, u28, u29, u30, u31, u32, u33, u34, u35, u36, u37, u38, u39, u40, u41, u42, u43, u44, u45, u46, u47, u48, u49, u50, u51, u52, u53, u54, u55, u56, u57, u58, u59, u60], defers := [] })
        (fun x V => V.alloc (.cells #[.int .u32 (rd_T41 p (x : Int)).f0, .int .i64 (rd_T41 p (x : Int)).f1] 41)) (fun x V => (Below.refl _ V).alloc (Nat.le_refl _) _) (fun hb h => h.below hb) ?assign ?body ?done ?stop
      case assign =>
        intro l_1 x V K hK
        gi_wp2
        exact hK
      case body =>
        rintro l_1 is x V0 V hz0 hI hlen hbox hsz
        have I2 := Lib.hid hI
        have Z0 := Lib.hid hz0
        have K10 := Lib.hid (show V.heap[V0.heap.size]? = some (.cells #[.int .u32 (rd_T41 p (x : Int)).f0, .int .i64 (rd_T41 p (x : Int)).f1] 41 (0, 0)) from (hbox _ (Nat.le_refl _)).trans (blk_new V0 _))
        clear hI hlen hbox hsz hz0
        have e0 := (sblk_cell K10.out 0).trans rfl
        have e1 := (sblk_cell K10.out 1).trans rfl
        have e2 := (sblk_cell I2.out.2.1 0).trans rfl
        have e3 := (sblk_cell I2.out.2.2 0).trans rfl
        have f3 := sblk_free I2.out.2.2 0
        have e4 := (sblk_cell (blk_below II.out.he I2.out.1) 0).trans rfl
        have hn0 := nextI_snoc p (e - n) e is x
        unfold inWay at hn0
        generalize (rd_T41 p (x : Int)).f0 = y at e0 hn0 K10 ⊢
        obtain ⟨N2, hN2⟩ : ∃ N2, nextI p (e - n) e (is ++ [x]) = N2 := ⟨_, rfl⟩
        rw [hN2] at hn0
        have HN := Lib.hid hN2
        clear hN2
        have stay : N2 = nextI p (e - n) e is → KeepsFrom y2.heap.size V V ∧ (BInv w0 (wr.heap.size + 1 + 1) (.slice A3 p.length c3) V → BInv w0 (wr.heap.size + 1 + 1) (.slice A3 p.length c3) V) ∧ (Below wr.heap.size wr V ∧ V.heap[wr.heap.size]? = some (.cells #[.int .u32 (e - n)] 30 (0, 0)) ∧ V.heap[wr.heap.size + 1]? = some (.cells #[.int .u32 (nextI p (e - n) e (is ++ [x]))] 30 (0, 0))) := fun h => ⟨KeepsFrom.refl _ _, fun h => h, I2.out.1, I2.out.2.1, by rw [HN.out, h]; exact I2.out.2.2⟩
        have ST := Lib.hid stay
        clear stay
        by_cases g1 : y ≥ e - n
        · have d1 := decide_eq_true g1
          by_cases g2 : y < e
          · have d2 := decide_eq_true g2
            rw [d1, d2] at hn0
            have H2 := Lib.hid (show N2 = y from hn0)
            clear hn0 g1 g2
            gi_wp2
            refine ⟨(KeepsOthers.setCell _ _ _).from _, fun h => ⟨h.bel.setCell (p := ⟨wr.heap.size + 1, 0, none⟩) (Nat.le_succ_of_le II.out.hm.bel.size) _, (set_far (show wr.heap.size + 1 + 1 ≠ wr.heap.size + 1 by omega)).trans h.b1⟩, I2.out.1.setCell (p := ⟨wr.heap.size + 1, 0, none⟩) (Nat.le_succ _) _, blk_far I2.out.2.1 (show wr.heap.size ≠ wr.heap.size + 1 by omega) _, ?_⟩
            rw [HN.out, H2.out]
            exact blk_put I2.out.2.2 0 _ rfl
          have d2 := decide_eq_false g2
          rw [d1, d2] at hn0
          have H2 := Lib.hid (show N2 = nextI p (e - n) e is from hn0)
          clear hn0 g1 g2
          gi_wp2
          exact ST.out H2.out
        have d1 := decide_eq_false g1
        rw [d1] at hn0
        have H2 := Lib.hid (show N2 = nextI p (e - n) e is from hn0)
        clear hn0 g1
        gi_wp2
        exact ST.out H2.out
      case done =>
        rintro D is V hD rfl hI hK
        rw [nextI_all] at hI
        have I3 := Lib.hid hI
        have KD := Lib.hid hK
        have DD := Lib.hid (show wr.heap.size + 3 ≤ D from Nat.le_trans (Nat.le_of_eq Z9.out.symm) hD)
        clear hI hK hD
        have q6 := (sblk_cell (blk_below II.out.he I3.out.1) 0).trans rfl
        have q7 := (sblk_cell I3.out.2.1 0).trans rfl
        have q8 := (sblk_cell I3.out.2.2 0).trans rfl
        have f8 := sblk_free I3.out.2.2 0
        have ql := (sblk_cell (blk_below II.out.hm.bl I3.out.1) 0).trans rfl
        have qh := (sblk_cell (blk_below II.out.hm.bh I3.out.1) 0).trans rfl
        have hS : nextS p low high n e = if heapB low high (e - n) e = true then min (nextP p (e - n) e) low else nextP p (e - n) e := rfl
        have HP2 := Lib.hid (nextP_range (e - n) e (by have := NN.out; omega) p)
        generalize nextP p (e - n) e = np at q8 hS I3 HP2 ⊢
        have hE := Lib.hid (sblk_lt II.out.he)
        have hne1 : E ≠ wr.heap.size + 1 := by have := hE.out; omega
        have hne2 : wr.heap.size + 1 ≠ E := by have := hE.out; omega
        by_cases g1 : low < high
        · by_cases g2 : e - n < high
          · by_cases g3 : low < e
            · skip
              have d1 := decide_eq_true g1
              have d2 := decide_eq_true g2
              have d3 := decide_eq_true g3
              rw [if_pos (show heapB low high (e - n) e = true by unfold heapB; rw [d1, d2, d3]; rfl)] at hS
              have HS := Lib.hid hS
              have hm : (if np < low then np else low) = min np low := by
                split <;> omega
              clear hS g1 g2 g3
              gi_wp2_with (fail)
              have I4 := Lib.hid (show Below wr.heap.size wr (V.setCell ⟨wr.heap.size + 1, 0, none⟩ (.int .u32 (min np low))) ∧ (V.setCell ⟨wr.heap.size + 1, 0, none⟩ (.int .u32 (min np low))).heap[wr.heap.size + 1]? = some (.cells #[.int .u32 (min np low)] 30 (0, 0)) ∧ (V.setCell ⟨wr.heap.size + 1, 0, none⟩ (.int .u32 (min np low))).heap[D]? = some (.deferred (some [])) from ⟨I3.out.1.setCell (p := ⟨wr.heap.size + 1, 0, none⟩) (Nat.le_succ _) _, blk_put I3.out.2.2 0 _ rfl, (set_far (show D ≠ wr.heap.size + 1 by have := DD.out; omega)).trans KD.out⟩)
              generalize V.setCell ⟨wr.heap.size + 1, 0, none⟩ (.int .u32 (min np low)) = V1 at I4 ⊢
              rw [← HS.out] at I4 ⊢
              clear hm q6 q7 q8 f8 ql qh d1 d2 d3
              have WZ := Lib.hid (show W.heap.size ≤ wr.heap.size from Nat.le_of_lt (Nat.lt_of_le_of_lt II.out.ez hE.out))
              obtain ⟨fn, tmps, assign, body, hy, hRd⟩ := HY.out pre (e - n, nextS p low high n e == e) V1 (HJ.out pre wr V1 II.out.hj (I4.out.1.mono WZ.out)) (by have := II.out.hl; omega)
              dsimp only at hy
              rw [hy]
              refine ⟨(fun h => by cases h), hRd.mono ?_⟩
              rintro e' W3 (⟨rfl, hJ3, hk3⟩ | ⟨rfl, hJx3, hm3⟩)
              · have hfl := HT.out _ _ hJ3 (e - n, nextS p low high n e == e) (List.mem_append_right _ (List.mem_singleton.2 rfl))
                have HNE := Lib.hid (show nextS p low high n e ≠ e from fun h => by rw [h] at hfl; simp at hfl)
                have M3 := Lib.hid (hk3.1 (II.out.hm.below I4.out.1))
                have E3 := Lib.hid (hk3.2 E _ (by have := HZ.out; have := II.out.ez; omega) ((I4.out.1.block _ hE.out).trans II.out.he))
                have N3 := Lib.hid (hk3.2 (wr.heap.size + 1) _ (by have := HZ.out; have := WZ.out; omega) I4.out.2.1)
                have q3e := (sblk_cell E3.out 0).trans rfl
                have f3e := sblk_free E3.out 0
                have q3n := (sblk_cell N3.out 0).trans rfl
                clear hfl
                gi_wp2
                have HF := Lib.hid (show ((W3.setCell ⟨E, 0, none⟩ (.int .u32 (nextS p low high n e))).alloc (.cells #[.int .u32 (nextS p low high n e)] 30)).heap[W3.heap.size]? = some (.cells #[.int .u32 (nextS p low high n e)] 30 (0, 0)) from by
                  have h := blk_new (W3.setCell ⟨E, 0, none⟩ (.int .u32 (nextS p low high n e))) (.cells #[.int .u32 (nextS p low high n e)] 30)
                  rwa [show (W3.setCell ⟨E, 0, none⟩ (.int .u32 (nextS p low high n e))).heap.size = W3.heap.size by simp] at h)
                have EW := Lib.hid (show W.heap.size ≤ W3.heap.size from Nat.le_of_lt (Nat.lt_of_le_of_lt II.out.ez (sblk_lt E3.out)))
                have BW := Lib.hid (show Below W.heap.size W3 ((W3.setCell ⟨E, 0, none⟩ (.int .u32 (nextS p low high n e))).alloc (.cells #[.int .u32 (nextS p low high n e)] 30)) from ((Below.refl _ W3).mono EW.out |>.setCell (p := ⟨E, 0, none⟩) II.out.ez (.int .u32 (nextS p low high n e))).alloc (by have := EW.out; simp; omega) _)
                have MD := Lib.hid (show ∀ D' ∈ D :: ds, W.heap.size ≤ D' ∧ ((W3.setCell ⟨E, 0, none⟩ (.int .u32 (nextS p low high n e))).alloc (.cells #[.int .u32 (nextS p low high n e)] 30)).heap[D']? = some (.deferred (some [])) from fun D' h' => by
                  have h3 : W.heap.size ≤ D' ∧ W3.heap[D']? = some (.deferred (some [])) := by
                    rcases List.mem_cons.1 h' with rfl | h'
                    · exact ⟨by have := WZ.out; have := DD.out; omega, hk3.2 _ _ (by have := HZ.out; have := WZ.out; have := DD.out; omega) I4.out.2.2⟩
                    · have h2 := II.out.hd D' h'
                      exact ⟨h2.1, hk3.2 _ _ (by have := HZ.out; omega) ((I4.out.1.block _ (sblk_lt h2.2)).trans h2.2)⟩
                  refine ⟨h3.1, ((below_new _ _).block D' (by have := sblk_lt h3.2; simp; omega)).trans ((set_far (fun h => ?_)).trans h3.2)⟩
                  have h4 := h3.2
                  rw [h, E3.out] at h4
                  cases h4)
                have ND := Lib.hid (show (D :: ds).Nodup from List.nodup_cons.2 ⟨fun h' => by have h2 := sblk_lt (II.out.hd D h').2; have := DD.out; omega, II.out.nd⟩)
                have NS := Lib.hid (nextS_range (p := p) (high := high) NN.out.2.2 NN.out.1 hlt)
                refine ⟨⟨(nextS p low high n e), W3.heap.size, pre ++ [(e - n, (nextS p low high n e) == e)], _, _, _, _, _, _, _, _, _, _, _, _, _, _, _, _, _, _, _, _, _, _, _, _, _, _, _, _, _, _, _, _, _, _, _, _, _, _, _, _, _, _, _, _, _, _, _, _, _, _, _, _, _, _, D :: ds, rfl, ?_⟩, ?_⟩
                · refine ⟨(M3.out.set _ (by have h1 := NB.out; have h2 := II.out.ez; omega)).below (below_new _ _), HF.out, EW.out, HJ.out _ _ _ hJ3 BW.out, ?_, II.out.hr.step NN.out.2.2 NN.out.1 hlt HNE.out, ND.out, MD.out⟩
                  have h1 := II.out.hl
                  have h2 := NS.out
                  have h3 := HNE.out
                  rw [List.length_append]
                  show pre.length + 1 + ((nextS p low high n e)).toNat ≤ 458752
                  omega
                · have c1 : ((W3.setCell ⟨E, 0, none⟩ (.int .u32 (nextS p low high n e))).alloc (.cells #[.int .u32 (nextS p low high n e)] 30)).cell? ⟨W3.heap.size, 0, none⟩ = some (.int .u32 (nextS p low high n e)) := (sblk_cell HF.out 0).trans rfl
                  have c2 : wr.cell? ⟨E, 0, none⟩ = some (.int .u32 e) := (sblk_cell II.out.he 0).trans rfl
                  show muV ((W3.setCell ⟨E, 0, none⟩ (.int .u32 (nextS p low high n e))).alloc (.cells #[.int .u32 (nextS p low high n e)] 30)) (some (.pointer (some ⟨W3.heap.size, 0, none⟩))) < muV wr (some (.pointer (some ⟨E, 0, none⟩)))
                  simp only [muV, c1, c2]
                  have h2 := NS.out
                  have h3 := HNE.out
                  omega
              · have MK := Lib.hid (show ∀ D' ∈ D :: ds, W.heap.size ≤ D' ∧ W3.heap[D']? = some (.deferred (some [])) from fun D' h' => by
                  rcases List.mem_cons.1 h' with rfl | h'
                  · exact ⟨by have := WZ.out; have := DD.out; omega, hm3 _ _ (by have := HZ.out; have := WZ.out; have := DD.out; omega) I4.out.2.2 rfl⟩
                  · have h2 := II.out.hd D' h'
                    exact ⟨h2.1, hm3 _ _ (by have := HZ.out; omega) ((I4.out.1.block _ (sblk_lt h2.2)).trans h2.2) rfl⟩)
                have ND := Lib.hid (show (D :: ds).Nodup from List.nodup_cons.2 ⟨fun h' => by have h2 := sblk_lt (II.out.hd D h').2; have := DD.out; omega, II.out.nd⟩)
                gi_wp2
                exact leaves_marks (B := W.heap.size) (K := Jx (pre ++ [(e - n, nextS p low high n e == e)])) (fun V' D' h hB hd' => HX.out _ _ _ h ⟨rfl, rfl, rfl, by simp [World.putObj], fun k hk => World.putObj_heap_other (by omega)⟩)
                  (fun V' h => ⟨_, results_none rfl _ _ _, ⟨_, rfl⟩, .inr ⟨_, ⟨pre, _, rfl, fun hb => II.out.hr.found hlt (eq_of_beq hb)⟩, h⟩⟩) (D :: ds) W3 hJx3 ND.out MK.out
            · skip
              have d1 := decide_eq_true g1
              have d2 := decide_eq_true g2
              have d3 := decide_eq_false g3
              rw [if_neg (show ¬ heapB low high (e - n) e = true by unfold heapB; rw [d1, d2, d3]; simp)] at hS
              have HS := Lib.hid hS
              clear hS g1 g2 g3
              gi_wp2_with (fail)
              have I4 := Lib.hid (show Below wr.heap.size wr V ∧ V.heap[wr.heap.size + 1]? = some (.cells #[.int .u32 np] 30 (0, 0)) ∧ V.heap[D]? = some (.deferred (some [])) from ⟨I3.out.1, I3.out.2.2, KD.out⟩)
              rw [← HS.out] at I4 ⊢
              clear q6 q7 q8 f8 ql qh d1 d2 d3
              have WZ := Lib.hid (show W.heap.size ≤ wr.heap.size from Nat.le_of_lt (Nat.lt_of_le_of_lt II.out.ez hE.out))
              obtain ⟨fn, tmps, assign, body, hy, hRd⟩ := HY.out pre (e - n, nextS p low high n e == e) V (HJ.out pre wr V II.out.hj (I4.out.1.mono WZ.out)) (by have := II.out.hl; omega)
              dsimp only at hy
              rw [hy]
              refine ⟨(fun h => by cases h), hRd.mono ?_⟩
              rintro e' W3 (⟨rfl, hJ3, hk3⟩ | ⟨rfl, hJx3, hm3⟩)
              · have hfl := HT.out _ _ hJ3 (e - n, nextS p low high n e == e) (List.mem_append_right _ (List.mem_singleton.2 rfl))
                have HNE := Lib.hid (show nextS p low high n e ≠ e from fun h => by rw [h] at hfl; simp at hfl)
                have M3 := Lib.hid (hk3.1 (II.out.hm.below I4.out.1))
                have E3 := Lib.hid (hk3.2 E _ (by have := HZ.out; have := II.out.ez; omega) ((I4.out.1.block _ hE.out).trans II.out.he))
                have N3 := Lib.hid (hk3.2 (wr.heap.size + 1) _ (by have := HZ.out; have := WZ.out; omega) I4.out.2.1)
                have q3e := (sblk_cell E3.out 0).trans rfl
                have f3e := sblk_free E3.out 0
                have q3n := (sblk_cell N3.out 0).trans rfl
                clear hfl
                gi_wp2
                have HF := Lib.hid (show ((W3.setCell ⟨E, 0, none⟩ (.int .u32 (nextS p low high n e))).alloc (.cells #[.int .u32 (nextS p low high n e)] 30)).heap[W3.heap.size]? = some (.cells #[.int .u32 (nextS p low high n e)] 30 (0, 0)) from by
                  have h := blk_new (W3.setCell ⟨E, 0, none⟩ (.int .u32 (nextS p low high n e))) (.cells #[.int .u32 (nextS p low high n e)] 30)
                  rwa [show (W3.setCell ⟨E, 0, none⟩ (.int .u32 (nextS p low high n e))).heap.size = W3.heap.size by simp] at h)
                have EW := Lib.hid (show W.heap.size ≤ W3.heap.size from Nat.le_of_lt (Nat.lt_of_le_of_lt II.out.ez (sblk_lt E3.out)))
                have BW := Lib.hid (show Below W.heap.size W3 ((W3.setCell ⟨E, 0, none⟩ (.int .u32 (nextS p low high n e))).alloc (.cells #[.int .u32 (nextS p low high n e)] 30)) from ((Below.refl _ W3).mono EW.out |>.setCell (p := ⟨E, 0, none⟩) II.out.ez (.int .u32 (nextS p low high n e))).alloc (by have := EW.out; simp; omega) _)
                have MD := Lib.hid (show ∀ D' ∈ D :: ds, W.heap.size ≤ D' ∧ ((W3.setCell ⟨E, 0, none⟩ (.int .u32 (nextS p low high n e))).alloc (.cells #[.int .u32 (nextS p low high n e)] 30)).heap[D']? = some (.deferred (some [])) from fun D' h' => by
                  have h3 : W.heap.size ≤ D' ∧ W3.heap[D']? = some (.deferred (some [])) := by
                    rcases List.mem_cons.1 h' with rfl | h'
                    · exact ⟨by have := WZ.out; have := DD.out; omega, hk3.2 _ _ (by have := HZ.out; have := WZ.out; have := DD.out; omega) I4.out.2.2⟩
                    · have h2 := II.out.hd D' h'
                      exact ⟨h2.1, hk3.2 _ _ (by have := HZ.out; omega) ((I4.out.1.block _ (sblk_lt h2.2)).trans h2.2)⟩
                  refine ⟨h3.1, ((below_new _ _).block D' (by have := sblk_lt h3.2; simp; omega)).trans ((set_far (fun h => ?_)).trans h3.2)⟩
                  have h4 := h3.2
                  rw [h, E3.out] at h4
                  cases h4)
                have ND := Lib.hid (show (D :: ds).Nodup from List.nodup_cons.2 ⟨fun h' => by have h2 := sblk_lt (II.out.hd D h').2; have := DD.out; omega, II.out.nd⟩)
                have NS := Lib.hid (nextS_range (p := p) (high := high) NN.out.2.2 NN.out.1 hlt)
                refine ⟨⟨(nextS p low high n e), W3.heap.size, pre ++ [(e - n, (nextS p low high n e) == e)], _, _, _, _, _, _, _, _, _, _, _, _, _, _, _, _, _, _, _, _, _, _, _, _, _, _, _, _, _, _, _, _, _, _, _, _, _, _, _, _, _, _, _, _, _, _, _, _, _, _, _, _, _, _, D :: ds, rfl, ?_⟩, ?_⟩
                · refine ⟨(M3.out.set _ (by have h1 := NB.out; have h2 := II.out.ez; omega)).below (below_new _ _), HF.out, EW.out, HJ.out _ _ _ hJ3 BW.out, ?_, II.out.hr.step NN.out.2.2 NN.out.1 hlt HNE.out, ND.out, MD.out⟩
                  have h1 := II.out.hl
                  have h2 := NS.out
                  have h3 := HNE.out
                  rw [List.length_append]
                  show pre.length + 1 + ((nextS p low high n e)).toNat ≤ 458752
                  omega
                · have c1 : ((W3.setCell ⟨E, 0, none⟩ (.int .u32 (nextS p low high n e))).alloc (.cells #[.int .u32 (nextS p low high n e)] 30)).cell? ⟨W3.heap.size, 0, none⟩ = some (.int .u32 (nextS p low high n e)) := (sblk_cell HF.out 0).trans rfl
                  have c2 : wr.cell? ⟨E, 0, none⟩ = some (.int .u32 e) := (sblk_cell II.out.he 0).trans rfl
                  show muV ((W3.setCell ⟨E, 0, none⟩ (.int .u32 (nextS p low high n e))).alloc (.cells #[.int .u32 (nextS p low high n e)] 30)) (some (.pointer (some ⟨W3.heap.size, 0, none⟩))) < muV wr (some (.pointer (some ⟨E, 0, none⟩)))
                  simp only [muV, c1, c2]
                  have h2 := NS.out
                  have h3 := HNE.out
                  omega
              · have MK := Lib.hid (show ∀ D' ∈ D :: ds, W.heap.size ≤ D' ∧ W3.heap[D']? = some (.deferred (some [])) from fun D' h' => by
                  rcases List.mem_cons.1 h' with rfl | h'
                  · exact ⟨by have := WZ.out; have := DD.out; omega, hm3 _ _ (by have := HZ.out; have := WZ.out; have := DD.out; omega) I4.out.2.2 rfl⟩
                  · have h2 := II.out.hd D' h'
                    exact ⟨h2.1, hm3 _ _ (by have := HZ.out; omega) ((I4.out.1.block _ (sblk_lt h2.2)).trans h2.2) rfl⟩)
                have ND := Lib.hid (show (D :: ds).Nodup from List.nodup_cons.2 ⟨fun h' => by have h2 := sblk_lt (II.out.hd D h').2; have := DD.out; omega, II.out.nd⟩)
                gi_wp2
                exact leaves_marks (B := W.heap.size) (K := Jx (pre ++ [(e - n, nextS p low high n e == e)])) (fun V' D' h hB hd' => HX.out _ _ _ h ⟨rfl, rfl, rfl, by simp [World.putObj], fun k hk => World.putObj_heap_other (by omega)⟩)
                  (fun V' h => ⟨_, results_none rfl _ _ _, ⟨_, rfl⟩, .inr ⟨_, ⟨pre, _, rfl, fun hb => II.out.hr.found hlt (eq_of_beq hb)⟩, h⟩⟩) (D :: ds) W3 hJx3 ND.out MK.out
          · skip
            have d1 := decide_eq_true g1
            have d2 := decide_eq_false g2
            rw [if_neg (show ¬ heapB low high (e - n) e = true by unfold heapB; rw [d1, d2]; simp)] at hS
            have HS := Lib.hid hS
            clear hS g1 g2
            gi_wp2_with (fail)
            have I4 := Lib.hid (show Below wr.heap.size wr V ∧ V.heap[wr.heap.size + 1]? = some (.cells #[.int .u32 np] 30 (0, 0)) ∧ V.heap[D]? = some (.deferred (some [])) from ⟨I3.out.1, I3.out.2.2, KD.out⟩)
            rw [← HS.out] at I4 ⊢
            clear q6 q7 q8 f8 ql qh d1 d2
            have WZ := Lib.hid (show W.heap.size ≤ wr.heap.size from Nat.le_of_lt (Nat.lt_of_le_of_lt II.out.ez hE.out))
            obtain ⟨fn, tmps, assign, body, hy, hRd⟩ := HY.out pre (e - n, nextS p low high n e == e) V (HJ.out pre wr V II.out.hj (I4.out.1.mono WZ.out)) (by have := II.out.hl; omega)
            dsimp only at hy
            rw [hy]
            refine ⟨(fun h => by cases h), hRd.mono ?_⟩
            rintro e' W3 (⟨rfl, hJ3, hk3⟩ | ⟨rfl, hJx3, hm3⟩)
            · have hfl := HT.out _ _ hJ3 (e - n, nextS p low high n e == e) (List.mem_append_right _ (List.mem_singleton.2 rfl))
              have HNE := Lib.hid (show nextS p low high n e ≠ e from fun h => by rw [h] at hfl; simp at hfl)
              have M3 := Lib.hid (hk3.1 (II.out.hm.below I4.out.1))
              have E3 := Lib.hid (hk3.2 E _ (by have := HZ.out; have := II.out.ez; omega) ((I4.out.1.block _ hE.out).trans II.out.he))
              have N3 := Lib.hid (hk3.2 (wr.heap.size + 1) _ (by have := HZ.out; have := WZ.out; omega) I4.out.2.1)
              have q3e := (sblk_cell E3.out 0).trans rfl
              have f3e := sblk_free E3.out 0
              have q3n := (sblk_cell N3.out 0).trans rfl
              clear hfl
              gi_wp2
              have HF := Lib.hid (show ((W3.setCell ⟨E, 0, none⟩ (.int .u32 (nextS p low high n e))).alloc (.cells #[.int .u32 (nextS p low high n e)] 30)).heap[W3.heap.size]? = some (.cells #[.int .u32 (nextS p low high n e)] 30 (0, 0)) from by
                have h := blk_new (W3.setCell ⟨E, 0, none⟩ (.int .u32 (nextS p low high n e))) (.cells #[.int .u32 (nextS p low high n e)] 30)
                rwa [show (W3.setCell ⟨E, 0, none⟩ (.int .u32 (nextS p low high n e))).heap.size = W3.heap.size by simp] at h)
              have EW := Lib.hid (show W.heap.size ≤ W3.heap.size from Nat.le_of_lt (Nat.lt_of_le_of_lt II.out.ez (sblk_lt E3.out)))
              have BW := Lib.hid (show Below W.heap.size W3 ((W3.setCell ⟨E, 0, none⟩ (.int .u32 (nextS p low high n e))).alloc (.cells #[.int .u32 (nextS p low high n e)] 30)) from ((Below.refl _ W3).mono EW.out |>.setCell (p := ⟨E, 0, none⟩) II.out.ez (.int .u32 (nextS p low high n e))).alloc (by have := EW.out; simp; omega) _)
              have MD := Lib.hid (show ∀ D' ∈ D :: ds, W.heap.size ≤ D' ∧ ((W3.setCell ⟨E, 0, none⟩ (.int .u32 (nextS p low high n e))).alloc (.cells #[.int .u32 (nextS p low high n e)] 30)).heap[D']? = some (.deferred (some [])) from fun D' h' => by
                have h3 : W.heap.size ≤ D' ∧ W3.heap[D']? = some (.deferred (some [])) := by
                  rcases List.mem_cons.1 h' with rfl | h'
                  · exact ⟨by have := WZ.out; have := DD.out; omega, hk3.2 _ _ (by have := HZ.out; have := WZ.out; have := DD.out; omega) I4.out.2.2⟩
                  · have h2 := II.out.hd D' h'
                    exact ⟨h2.1, hk3.2 _ _ (by have := HZ.out; omega) ((I4.out.1.block _ (sblk_lt h2.2)).trans h2.2)⟩
                refine ⟨h3.1, ((below_new _ _).block D' (by have := sblk_lt h3.2; simp; omega)).trans ((set_far (fun h => ?_)).trans h3.2)⟩
                have h4 := h3.2
                rw [h, E3.out] at h4
                cases h4)
              have ND := Lib.hid (show (D :: ds).Nodup from List.nodup_cons.2 ⟨fun h' => by have h2 := sblk_lt (II.out.hd D h').2; have := DD.out; omega, II.out.nd⟩)
              have NS := Lib.hid (nextS_range (p := p) (high := high) NN.out.2.2 NN.out.1 hlt)
              refine ⟨⟨(nextS p low high n e), W3.heap.size, pre ++ [(e - n, (nextS p low high n e) == e)], _, _, _, _, _, _, _, _, _, _, _, _, _, _, _, _, _, _, _, _, _, _, _, _, _, _, _, _, _, _, _, _, _, _, _, _, _, _, _, _, _, _, _, _, _, _, _, _, _, _, _, _, _, _, D :: ds, rfl, ?_⟩, ?_⟩
              · refine ⟨(M3.out.set _ (by have h1 := NB.out; have h2 := II.out.ez; omega)).below (below_new _ _), HF.out, EW.out, HJ.out _ _ _ hJ3 BW.out, ?_, II.out.hr.step NN.out.2.2 NN.out.1 hlt HNE.out, ND.out, MD.out⟩
                have h1 := II.out.hl
                have h2 := NS.out
                have h3 := HNE.out
                rw [List.length_append]
                show pre.length + 1 + ((nextS p low high n e)).toNat ≤ 458752
                omega
              · have c1 : ((W3.setCell ⟨E, 0, none⟩ (.int .u32 (nextS p low high n e))).alloc (.cells #[.int .u32 (nextS p low high n e)] 30)).cell? ⟨W3.heap.size, 0, none⟩ = some (.int .u32 (nextS p low high n e)) := (sblk_cell HF.out 0).trans rfl
                have c2 : wr.cell? ⟨E, 0, none⟩ = some (.int .u32 e) := (sblk_cell II.out.he 0).trans rfl
                show muV ((W3.setCell ⟨E, 0, none⟩ (.int .u32 (nextS p low high n e))).alloc (.cells #[.int .u32 (nextS p low high n e)] 30)) (some (.pointer (some ⟨W3.heap.size, 0, none⟩))) < muV wr (some (.pointer (some ⟨E, 0, none⟩)))
                simp only [muV, c1, c2]
                have h2 := NS.out
                have h3 := HNE.out
                omega
            · have MK := Lib.hid (show ∀ D' ∈ D :: ds, W.heap.size ≤ D' ∧ W3.heap[D']? = some (.deferred (some [])) from fun D' h' => by
                rcases List.mem_cons.1 h' with rfl | h'
                · exact ⟨by have := WZ.out; have := DD.out; omega, hm3 _ _ (by have := HZ.out; have := WZ.out; have := DD.out; omega) I4.out.2.2 rfl⟩
                · have h2 := II.out.hd D' h'
                  exact ⟨h2.1, hm3 _ _ (by have := HZ.out; omega) ((I4.out.1.block _ (sblk_lt h2.2)).trans h2.2) rfl⟩)
              have ND := Lib.hid (show (D :: ds).Nodup from List.nodup_cons.2 ⟨fun h' => by have h2 := sblk_lt (II.out.hd D h').2; have := DD.out; omega, II.out.nd⟩)
              gi_wp2
              exact leaves_marks (B := W.heap.size) (K := Jx (pre ++ [(e - n, nextS p low high n e == e)])) (fun V' D' h hB hd' => HX.out _ _ _ h ⟨rfl, rfl, rfl, by simp [World.putObj], fun k hk => World.putObj_heap_other (by omega)⟩)
                (fun V' h => ⟨_, results_none rfl _ _ _, ⟨_, rfl⟩, .inr ⟨_, ⟨pre, _, rfl, fun hb => II.out.hr.found hlt (eq_of_beq hb)⟩, h⟩⟩) (D :: ds) W3 hJx3 ND.out MK.out
        skip
        have d1 := decide_eq_false g1
        rw [if_neg (show ¬ heapB low high (e - n) e = true by unfold heapB; rw [d1]; simp)] at hS
        have HS := Lib.hid hS
        clear hS g1
        gi_wp2_with (fail)
        have I4 := Lib.hid (show Below wr.heap.size wr V ∧ V.heap[wr.heap.size + 1]? = some (.cells #[.int .u32 np] 30 (0, 0)) ∧ V.heap[D]? = some (.deferred (some [])) from ⟨I3.out.1, I3.out.2.2, KD.out⟩)
        rw [← HS.out] at I4 ⊢
        clear q6 q7 q8 f8 ql qh d1
        have WZ := Lib.hid (show W.heap.size ≤ wr.heap.size from Nat.le_of_lt (Nat.lt_of_le_of_lt II.out.ez hE.out))
        obtain ⟨fn, tmps, assign, body, hy, hRd⟩ := HY.out pre (e - n, nextS p low high n e == e) V (HJ.out pre wr V II.out.hj (I4.out.1.mono WZ.out)) (by have := II.out.hl; omega)
        dsimp only at hy
        rw [hy]
        refine ⟨(fun h => by cases h), hRd.mono ?_⟩
        rintro e' W3 (⟨rfl, hJ3, hk3⟩ | ⟨rfl, hJx3, hm3⟩)
        · have hfl := HT.out _ _ hJ3 (e - n, nextS p low high n e == e) (List.mem_append_right _ (List.mem_singleton.2 rfl))
          have HNE := Lib.hid (show nextS p low high n e ≠ e from fun h => by rw [h] at hfl; simp at hfl)
          have M3 := Lib.hid (hk3.1 (II.out.hm.below I4.out.1))
          have E3 := Lib.hid (hk3.2 E _ (by have := HZ.out; have := II.out.ez; omega) ((I4.out.1.block _ hE.out).trans II.out.he))
          have N3 := Lib.hid (hk3.2 (wr.heap.size + 1) _ (by have := HZ.out; have := WZ.out; omega) I4.out.2.1)
          have q3e := (sblk_cell E3.out 0).trans rfl
          have f3e := sblk_free E3.out 0
          have q3n := (sblk_cell N3.out 0).trans rfl
          clear hfl
          gi_wp2
          have HF := Lib.hid (show ((W3.setCell ⟨E, 0, none⟩ (.int .u32 (nextS p low high n e))).alloc (.cells #[.int .u32 (nextS p low high n e)] 30)).heap[W3.heap.size]? = some (.cells #[.int .u32 (nextS p low high n e)] 30 (0, 0)) from by
            have h := blk_new (W3.setCell ⟨E, 0, none⟩ (.int .u32 (nextS p low high n e))) (.cells #[.int .u32 (nextS p low high n e)] 30)
            rwa [show (W3.setCell ⟨E, 0, none⟩ (.int .u32 (nextS p low high n e))).heap.size = W3.heap.size by simp] at h)
          have EW := Lib.hid (show W.heap.size ≤ W3.heap.size from Nat.le_of_lt (Nat.lt_of_le_of_lt II.out.ez (sblk_lt E3.out)))
          have BW := Lib.hid (show Below W.heap.size W3 ((W3.setCell ⟨E, 0, none⟩ (.int .u32 (nextS p low high n e))).alloc (.cells #[.int .u32 (nextS p low high n e)] 30)) from ((Below.refl _ W3).mono EW.out |>.setCell (p := ⟨E, 0, none⟩) II.out.ez (.int .u32 (nextS p low high n e))).alloc (by have := EW.out; simp; omega) _)
          have MD := Lib.hid (show ∀ D' ∈ D :: ds, W.heap.size ≤ D' ∧ ((W3.setCell ⟨E, 0, none⟩ (.int .u32 (nextS p low high n e))).alloc (.cells #[.int .u32 (nextS p low high n e)] 30)).heap[D']? = some (.deferred (some [])) from fun D' h' => by
            have h3 : W.heap.size ≤ D' ∧ W3.heap[D']? = some (.deferred (some [])) := by
              rcases List.mem_cons.1 h' with rfl | h'
              · exact ⟨by have := WZ.out; have := DD.out; omega, hk3.2 _ _ (by have := HZ.out; have := WZ.out; have := DD.out; omega) I4.out.2.2⟩
              · have h2 := II.out.hd D' h'
                exact ⟨h2.1, hk3.2 _ _ (by have := HZ.out; omega) ((I4.out.1.block _ (sblk_lt h2.2)).trans h2.2)⟩
            refine ⟨h3.1, ((below_new _ _).block D' (by have := sblk_lt h3.2; simp; omega)).trans ((set_far (fun h => ?_)).trans h3.2)⟩
            have h4 := h3.2
            rw [h, E3.out] at h4
            cases h4)
          have ND := Lib.hid (show (D :: ds).Nodup from List.nodup_cons.2 ⟨fun h' => by have h2 := sblk_lt (II.out.hd D h').2; have := DD.out; omega, II.out.nd⟩)
          have NS := Lib.hid (nextS_range (p := p) (high := high) NN.out.2.2 NN.out.1 hlt)
          refine ⟨⟨(nextS p low high n e), W3.heap.size, pre ++ [(e - n, (nextS p low high n e) == e)], _, _, _, _, _, _, _, _, _, _, _, _, _, _, _, _, _, _, _, _, _, _, _, _, _, _, _, _, _, _, _, _, _, _, _, _, _, _, _, _, _, _, _, _, _, _, _, _, _, _, _, _, _, _, D :: ds, rfl, ?_⟩, ?_⟩
          · refine ⟨(M3.out.set _ (by have h1 := NB.out; have h2 := II.out.ez; omega)).below (below_new _ _), HF.out, EW.out, HJ.out _ _ _ hJ3 BW.out, ?_, II.out.hr.step NN.out.2.2 NN.out.1 hlt HNE.out, ND.out, MD.out⟩
            have h1 := II.out.hl
            have h2 := NS.out
            have h3 := HNE.out
            rw [List.length_append]
            show pre.length + 1 + ((nextS p low high n e)).toNat ≤ 458752
            omega
          · have c1 : ((W3.setCell ⟨E, 0, none⟩ (.int .u32 (nextS p low high n e))).alloc (.cells #[.int .u32 (nextS p low high n e)] 30)).cell? ⟨W3.heap.size, 0, none⟩ = some (.int .u32 (nextS p low high n e)) := (sblk_cell HF.out 0).trans rfl
            have c2 : wr.cell? ⟨E, 0, none⟩ = some (.int .u32 e) := (sblk_cell II.out.he 0).trans rfl
            show muV ((W3.setCell ⟨E, 0, none⟩ (.int .u32 (nextS p low high n e))).alloc (.cells #[.int .u32 (nextS p low high n e)] 30)) (some (.pointer (some ⟨W3.heap.size, 0, none⟩))) < muV wr (some (.pointer (some ⟨E, 0, none⟩)))
            simp only [muV, c1, c2]
            have h2 := NS.out
            have h3 := HNE.out
            omega
        · have MK := Lib.hid (show ∀ D' ∈ D :: ds, W.heap.size ≤ D' ∧ W3.heap[D']? = some (.deferred (some [])) from fun D' h' => by
            rcases List.mem_cons.1 h' with rfl | h'
            · exact ⟨by have := WZ.out; have := DD.out; omega, hm3 _ _ (by have := HZ.out; have := WZ.out; have := DD.out; omega) I4.out.2.2 rfl⟩
            · have h2 := II.out.hd D' h'
              exact ⟨h2.1, hm3 _ _ (by have := HZ.out; omega) ((I4.out.1.block _ (sblk_lt h2.2)).trans h2.2) rfl⟩)
          have ND := Lib.hid (show (D :: ds).Nodup from List.nodup_cons.2 ⟨fun h' => by have h2 := sblk_lt (II.out.hd D h').2; have := DD.out; omega, II.out.nd⟩)
          gi_wp2
          exact leaves_marks (B := W.heap.size) (K := Jx (pre ++ [(e - n, nextS p low high n e == e)])) (fun V' D' h hB hd' => HX.out _ _ _ h ⟨rfl, rfl, rfl, by simp [World.putObj], fun k hk => World.putObj_heap_other (by omega)⟩)
            (fun V' h => ⟨_, results_none rfl _ _ _, ⟨_, rfl⟩, .inr ⟨_, ⟨pre, _, rfl, fun hb => II.out.hr.found hlt (eq_of_beq hb)⟩, h⟩⟩) (D :: ds) W3 hJx3 ND.out MK.out
      case stop =>
        rintro D c is V _ _ h
        exact h.elim
    have hd := decide_eq_false (show ¬ e > n from hlt)
    gi_wp2
    exact leaves_marks (B := W.heap.size) (K := J pre) (fun V' D' h hB hd' => HJ.out _ _ _ h ⟨rfl, rfl, rfl, by simp [World.putObj], fun k hk => World.putObj_heap_other (by omega)⟩)
      (fun V' h => ⟨_, results_none rfl _ _ _, ⟨_, rfl⟩, .inl ⟨II.out.hr.none (by omega), pre, h⟩⟩) ds wr II.out.hj II.out.nd (fun D' h' => II.out.hd D' h')
end Go.Proofs.Ytgkjdpdmmlalcaa.F
end
