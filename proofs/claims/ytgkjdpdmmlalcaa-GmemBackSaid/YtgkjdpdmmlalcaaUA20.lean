import Derived.Test.YtgkjdpdmmlalcaaUZF0
import Derived.Test.YtgkjdpdmmlalcaaUA0
import Derived.Test.YtgkjdpdmmlalcaaUA1HHost0
import Derived.Test.YtgkjdpdmmlalcaaUA2
import Derived.Test.YtgkjdpdmmlalcaaUA4
import Derived.Test.YtgkjdpdmmlalcaaUA6
import Derived.Test.YtgkjdpdmmlalcaaUA8
import Derived.Test.YtgkjdpdmmlalcaaUA10
import Derived.Test.YtgkjdpdmmlalcaaUA12
import Derived.Test.YtgkjdpdmmlalcaaUA13HHost6
import Derived.Test.YtgkjdpdmmlalcaaUA14
import Derived.Test.YtgkjdpdmmlalcaaUA15FHostLoad
import Derived.Test.YtgkjdpdmmlalcaaUA18
import Derived.Test.YtgkjdpdmmlalcaaUA19HSwap
section
namespace Go.Proofs.Ytgkjdpdmmlalcaa.F
open Go.RowKit Go.Shelf Go.Proofs.YtgkjdpdmmlalcaaW.PrintWords Go.Proofs.YtgkjdpdmmlalcaaW.PrintLast Go.Proofs.YtgkjdpdmmlalcaaW.PrintMore
set_option linter.unusedVariables false
set_option linter.unusedSimpArgs false
attribute [local go_sem] Oper.semAt_some
def kindS (p : List SP) (need x : Int) : Int := if x < 4294967296 then (if protP p (x / 4096 % 4294967296) < 0 then 1 else if Go.bits .and .i64 (protP p (x / 4096 % 4294967296)) need = need then 0 else 2) else 1
def spanL (a n : Int) : List Int := (List.range n.toNat).map (fun (i : Nat) => a + (i : Int))
theorem spanL_len (a n : Int) : (spanL a n).length = n.toNat := by simp [spanL]
theorem spanL_take (a n : Int) (k : Nat) (h : k < n.toNat) : (spanL a n).take (k + 1) = (spanL a n).take k ++ [a + (k : Int)] := by
  rw [List.take_succ_eq_append_getElem (by rw [spanL_len]; exact h)]
  congr 2
  simp [spanL]
theorem spanL_mod {a n : Int} (h0 : 0 ≤ a) (h1 : a + n ≤ 18446744073709551616) : ∀ x ∈ spanL a n, x % 18446744073709551616 = x := by
  intro x hx
  simp only [spanL, List.mem_map, List.mem_range] at hx
  obtain ⟨i, hi, rfl⟩ := hx
  omega
structure GRead (w0 : World) (A0 : Option Addr) (c0 : Nat) (l0 : List SM) (A1 : Option Addr) (c1 : Nat) (l1 : List SC) (A3 : Option Addr) (c3 : Nat) (p : List SP) : Prop where
  r0 : Kd.C kM w0 A0 l0.length l0
  n0 : l0.length ≤ c0
  r1 : Kd.C kC w0 A1 l1.length l1
  n1 : l1.length ≤ c1
  r3 : Kd.C kP w0 A3 p.length p
  n3 : p.length ≤ c3
  lp : p.length ≤ 1000000
  rp : Rises pgK p
structure SInv (w0 : World) (B1 B2 B3 B4 : Nat) (gv : Array Value) (a n need : Int) (W : World) : Prop where
  bel : Below w0.heap.size w0 W
  b1 : W.heap[B1]? = some (.cells #[.int .u32 a] 30 (0, 0))
  b2 : W.heap[B2]? = some (.cells #[.int .i64 n] 3 (0, 0))
  b3 : W.heap[B3]? = some (.cells gv 29 (0, 0))
  b4 : W.heap[B4]? = some (.cells #[.int .i64 need] 3 (0, 0))
theorem SInv.below {w0 : World} {B1 B2 B3 B4 : Nat} {gv : Array Value} {a n need : Int} {W W' : World} (h : SInv w0 B1 B2 B3 B4 gv a n need W) (hb : Below W.heap.size W W') : SInv w0 B1 B2 B3 B4 gv a n need W' :=
  ⟨h.bel.trans (hb.mono h.bel.size), blk_below h.b1 hb, blk_below h.b2 hb, blk_below h.b3 hb, blk_below h.b4 hb⟩
theorem SInv.own {w0 : World} {B1 B2 B3 B4 : Nat} {gv : Array Value} {a n need : Int} {W W' : World} {row : Option Nat} (h : SInv w0 B1 B2 B3 B4 gv a n need W) (hg : W.grownBy W' row) (hr : ∀ r, row = some r → w0.heap.size ≤ r ∧ ∃ o : Obj, W.heap[r]? = some o ∧ o.isCells = false) : SInv w0 B1 B2 B3 B4 gv a n need W' :=
  ⟨h.bel.grown hg h.bel.size (fun k e => (hr k e).1), blk_own h.b1 hg (fun r e => (hr r e).2), blk_own h.b2 hg (fun r e => (hr r e).2), blk_own h.b3 hg (fun r e => (hr r e).2), blk_own h.b4 hg (fun r e => (hr r e).2)⟩
set_option maxHeartbeats 8000000 in
set_option maxRecDepth 100000 in
theorem gSpan1_any (w0 : World) (l B1 B2 B3 B4 : Nat) (A0 : Option Addr) (c0 : Nat) (l0 : List SM) (A1 : Option Addr) (c1 : Nat) (l1 : List SC) (b : Int) (A3 : Option Addr) (c3 : Nat) (p : List SP) (a n need : Int)
    (hG : GRead w0 A0 c0 l0 A1 c1 l1 A3 c3 p) (ha : 0 ≤ a) (ha2 : a < 4294967296) (hn : 0 ≤ n) (hn2 : n < 4294967296) (J Jx : List Int → World → Prop) (m : Nat)
    (hY : ∀ pre x W, J pre W → pre.length < n.toNat → 0 ≤ x → x < 18446744073709551616 → YieldAt Fence.wide (m - 1) Try.prog l #[.int .u64 x, .int .i64 (kindS p need x)] W fun e W' =>
      (e = .returned (.bool true) ∧ J (pre ++ [x]) W' ∧ (SInv w0 B1 B2 B3 B4 #[.slice A0 l0.length c0, .slice A1 l1.length c1, .int .u64 b, .slice A3 p.length c3] a n need W → SInv w0 B1 B2 B3 B4 #[.slice A0 l0.length c0, .slice A1 l1.length c1, .int .u64 b, .slice A3 p.length c3] a n need W')) ∨ (e = .returned (.bool false) ∧ Jx (pre ++ [x]) W'))
    (W : World) (hI : SInv w0 B1 B2 B3 B4 #[.slice A0 l0.length c0, .slice A1 l1.length c1, .int .u64 b, .slice A3 p.length c3] a n need W) (hJ : AbidesFrom W.heap.size J) (h0 : J [] W) :
    CallsIn Fence.wide m Try.prog 85 #[.func (.yield l) #[] #[], .pointer (some ⟨B1, 0, none⟩), .pointer (some ⟨B2, 0, none⟩), .pointer (some ⟨B3, 0, none⟩), .pointer (some ⟨B4, 0, none⟩)] W fun e W' => (∃ v, e = .returned v) ∧
      ((∃ ys, ys = spanL a n ∧ J ys W') ∨ (∃ pre, pre <+: spanL a n ∧ Jx pre W')) := by
  have hu2 := Try.underlying29
  have hu3 := Try.underlying25
  have PR := Lib.hid (fun W (hB : Below w0.heap.size w0 W) (x : Int) => guest_Prot.calls A0 c0 l0 A1 c1 l1 b A3 c3 p x _ W (Kd.C_below hG.r0 hB) hG.n0 (Kd.C_below hG.r1 hB) hG.n1 (Kd.C_below hG.r3 hB) hG.n3 (prot_f l0 l1 b hG.lp hG.rp x))
  have JJ := Lib.hid (fun s (W1 W2 : World) (hj : J s W1) (hb : Below W1.heap.size W1 W2) => hJ s W1 W2 none hj (grown_of_below hb) (fun r e => by cases e))
  have HY := Lib.hid hY
  have HI := Lib.hid hI
  have HJ0 := Lib.hid h0
  have NA := Lib.hid (And.intro ha ha2)
  have NN := Lib.hid (And.intro hn hn2)
  clear hY hJ hI h0 hG ha ha2 hn hn2
  have ea : IntKind.u64.wrap a = a := by
    have := NA.out
    simp [IntKind.wrap, IntKind.bits, IntKind.signed]
    omega
  have en : IntKind.u64.wrap n = n := by
    have := NN.out
    simp [IntKind.wrap, IntKind.bits, IntKind.signed]
    omega
  have ean : IntKind.u64.wrap (a + n) = a + n := by
    have := NA.out
    have := NN.out
    simp [IntKind.wrap, IntKind.bits, IntKind.signed]
    omega
  refine callsIn_of_wp Try.func85 rfl trivial ?_ rfl
  simp only [Try.ntmps85, List.size_toArray, List.length_cons, List.length_nil, Nat.reduceAdd, Nat.reduceSub, Array.replicate_succ, Array.replicate_zero, List.push_toArray, List.append_toArray, List.nil_append, List.cons_append]
  have g1 := (sblk_cell HI.out.b1 0).trans rfl
  gi_wp2
  gi_loopw [6] (fun p wr => ∃ k : Nat, p = .int .u64 (a + (k : Int)) ∧ k ≤ n.toNat ∧ J ((spanL a n).take k) wr ∧ SInv w0 B1 B2 B3 B4 #[.slice A0 l0.length c0, .slice A1 l1.length c1, .int .u64 b, .slice A3 _ c3] a n need wr) (fun p wr => (a + n - (intOf p)).toNat)
  case atStart => exact ⟨0, by simp, Nat.zero_le _, HJ0.out, HI.out⟩
  case round =>
    obtain ⟨k, rfl, hk, hJk, hIk⟩ := hrel
    clear g1 HJ0 HI
    have HI := Lib.hid hIk
    have HJ := Lib.hid hJk
    clear hIk hJk
    have q1 := (sblk_cell HI.out.b1 0).trans rfl
    have q2 := (sblk_cell HI.out.b2 0).trans rfl
    have q3_0 := (sblk_cell HI.out.b3 0).trans rfl
    have q3_1 := (sblk_cell HI.out.b3 1).trans rfl
    have q3_2 := (sblk_cell HI.out.b3 2).trans rfl
    have q3_3 := (sblk_cell HI.out.b3 3).trans rfl
    by_cases hlt : k < n.toNat
    · have hd := decide_eq_true (show (k : Int) < n by omega)
      have HT := Lib.hid (spanL_take a n k hlt)
      have HK := Lib.hid hlt
      by_cases hx : a + (k : Int) < 4294967296
      · have hd2 := decide_eq_true hx
        have HX := Lib.hid hx
        have HE := Lib.hid (show IntKind.u64.wrap ((a + (k : Int)).tdiv 4096) % 4294967296 = (a + (k : Int)) / 4096 % 4294967296 by
          have := NA.out
          rw [Int.tdiv_eq_ediv_of_nonneg (by omega)]
          simp only [IntKind.wrap, IntKind.bits, IntKind.signed]
          simp
          try omega)
        clear hlt hx hk
        gi_wp2_with (fail)
        refine ⟨trivial, (fun h => by cases h), ?_⟩
        rw [HE.out]
        refine (callsIn_wide.2 (PR.out wr HI.out.bel ((a + (k : Int)) / 4096 % 4294967296))).mono ?_
        rintro e W1 ⟨rfl, hb⟩
        have HI1 := Lib.hid (HI.out.below hb)
        have HJ1 := Lib.hid (JJ.out _ _ _ HJ.out hb)
        clear HI HJ q1 q2 q3_0 q3_1 q3_2 q3_3 hb
        have q4 := (sblk_cell HI1.out.b4 0).trans rfl
        have hS : kindS p need (a + (k : Int)) = if protP p ((a + (k : Int)) / 4096 % 4294967296) < 0 then 1 else if Go.bits .and .i64 (protP p ((a + (k : Int)) / 4096 % 4294967296)) need = need then 0 else 2 := by
          unfold kindS
          rw [if_pos HX.out]
        generalize protP p ((a + (k : Int)) / 4096 % 4294967296) = q at hS ⊢
        clear hd2
        have hq : (decide (q < 0) = true ∧ kindS p need (a + (k : Int)) = 1) ∨ (decide (q < 0) = false ∧ (Go.bits .and .i64 q need != need) = true ∧ kindS p need (a + (k : Int)) = 2) ∨ (decide (q < 0) = false ∧ (Go.bits .and .i64 q need != need) = false ∧ kindS p need (a + (k : Int)) = 0) := by
          rw [hS]
          by_cases h1 : q < 0
          · exact .inl ⟨decide_eq_true h1, if_pos h1⟩
          rw [if_neg h1]
          by_cases h2 : Go.bits .and .i64 q need = need
          · exact .inr (.inr ⟨decide_eq_false h1, by rw [h2]; simp, if_pos h2⟩)
          exact .inr (.inl ⟨decide_eq_false h1, by simpa using h2, if_neg h2⟩)
        clear hS
        rcases hq with ⟨hb1, hκ⟩ | ⟨hb1, hb2, hκ⟩ | ⟨hb1, hb2, hκ⟩
        all_goals (
          obtain ⟨fn, tmps, assign, body, hy, hR⟩ := HY.out _ (a + (k : Int)) W1 HJ1.out (by rw [List.length_take, spanL_len]; have := HK.out; omega) (by have := NA.out; omega) (by have := NA.out; have := NN.out; have := HK.out; omega)
          rw [hκ] at hy
          clear hκ
          gi_wp2
          refine ⟨(fun h => by cases h), hR.mono ?_⟩
          rintro e W3 (⟨rfl, hJ3, hk3⟩ | ⟨rfl, hJx3⟩)
          · have HI3 := Lib.hid (hk3 HI1.out)
            have HJ3 := Lib.hid hJ3
            clear hk3 hJ3 hR hy
            have HW := Lib.hid (show IntKind.u64.wrap (a + (k : Int) + 1) = a + ((k + 1 : Nat) : Int) by
              have h1 := NA.out
              have h2 := NN.out
              have h3 := HK.out
              simp [IntKind.wrap, IntKind.bits, IntKind.signed]
              omega)
            gi_wp2
            go_roundw
            case rel => exact ⟨k + 1, by rw [HW.out], HK.out, by rw [HT.out]; exact HJ3.out, HI3.out⟩
            case measure =>
              have h1 := HK.out
              have h2 := HW.out
              rw [h2]
              simp [intOf]
              omega
          · gi_wp2
            refine bodyPost_ret (results_none rfl _ _ _) rfl ?_
            exact ⟨⟨_, rfl⟩, .inr ⟨_, ⟨(spanL a n).drop (k + 1), by rw [← HT.out, List.take_append_drop]⟩, hJx3⟩⟩)
      have hd2 := decide_eq_false hx
      have hκ : kindS p need (a + (k : Int)) = 1 := by
        unfold kindS
        rw [if_neg hx]
      clear hlt hx hk
      (
        obtain ⟨fn, tmps, assign, body, hy, hR⟩ := HY.out _ (a + (k : Int)) wr HJ.out (by rw [List.length_take, spanL_len]; have := HK.out; omega) (by have := NA.out; omega) (by have := NA.out; have := NN.out; have := HK.out; omega)
        rw [hκ] at hy
        clear hκ
        gi_wp2
        refine ⟨(fun h => by cases h), hR.mono ?_⟩
        rintro e W3 (⟨rfl, hJ3, hk3⟩ | ⟨rfl, hJx3⟩)
        · have HI3 := Lib.hid (hk3 HI.out)
          have HJ3 := Lib.hid hJ3
          clear hk3 hJ3 hR hy
          have HW := Lib.hid (show IntKind.u64.wrap (a + (k : Int) + 1) = a + ((k + 1 : Nat) : Int) by
            have h1 := NA.out
            have h2 := NN.out
            have h3 := HK.out
            simp [IntKind.wrap, IntKind.bits, IntKind.signed]
            omega)
          gi_wp2
          go_roundw
          case rel => exact ⟨k + 1, by rw [HW.out], HK.out, by rw [HT.out]; exact HJ3.out, HI3.out⟩
          case measure =>
            have h1 := HK.out
            have h2 := HW.out
            rw [h2]
            simp [intOf]
            omega
        · gi_wp2
          refine bodyPost_ret (results_none rfl _ _ _) rfl ?_
          exact ⟨⟨_, rfl⟩, .inr ⟨_, ⟨(spanL a n).drop (k + 1), by rw [← HT.out, List.take_append_drop]⟩, hJx3⟩⟩)
    have hd := decide_eq_false (show ¬ (k : Int) < n by omega)
    have e : k = n.toNat := by omega
    have HJ2 : Hid (J (spanL a n) wr) := by
      have h := HJ.out
      rw [e, List.take_of_length_le (by rw [spanL_len]; exact Nat.le_refl _)] at h
      exact h
    clear HJ e hlt hk
    gi_wp2
    go_end0
    exact ⟨⟨_, rfl⟩, .inl ⟨_, rfl, HJ2.out⟩⟩
theorem gSpan_stops (m : Nat) (w0 : World) (B1 B2 B3 B4 : Nat) (A0 : Option Addr) (c0 : Nat) (l0 : List SM) (A1 : Option Addr) (c1 : Nat) (l1 : List SC) (b : Int) (A3 : Option Addr) (c3 : Nat) (p : List SP) (a n need : Int)
    (hG : GRead w0 A0 c0 l0 A1 c1 l1 A3 c3 p) (ha : 0 ≤ a) (ha2 : a < 4294967296) (hn : 0 ≤ n) (hn2 : n < 4294967296) (w : World) (hI : SInv w0 B1 B2 B3 B4 #[.slice A0 l0.length c0, .slice A1 l1.length c1, .int .u64 b, .slice A3 p.length c3] a n need w) :
    SeqStopsK Fence.wide m Try.prog 85 #[.pointer (some ⟨B1, 0, none⟩), .pointer (some ⟨B2, 0, none⟩), .pointer (some ⟨B3, 0, none⟩), .pointer (some ⟨B4, 0, none⟩)] (fun x : Int => #[.int .u64 (x % 18446744073709551616), .int .i64 (kindS p need (x % 18446744073709551616))])
      (fun W W' => SInv w0 B1 B2 B3 B4 #[.slice A0 l0.length c0, .slice A1 l1.length c1, .int .u64 b, .slice A3 p.length c3] a n need W → SInv w0 B1 B2 B3 B4 #[.slice A0 l0.length c0, .slice A1 l1.length c1, .int .u64 b, .slice A3 p.length c3] a n need W') (fun xs => xs = spanL a n) (fun pre => pre <+: spanL a n) n.toNat w :=
  fun l J Jx W hW hJ _ hY h0 => gSpan1_any w0 l B1 B2 B3 B4 A0 c0 l0 A1 c1 l1 b A3 c3 p a n need hG ha ha2 hn hn2 J Jx m (fun pre x W hj hl x0 x1 => by have h := hY pre x W hj hl; dsimp only at h; rwa [Int.emod_eq_of_lt x0 x1] at h) W (hI.below hW) hJ h0
theorem sinv_b {w0 : World} {B1 B2 B3 B4 : Nat} {gv : Array Value} {a n need : Int} {w : World} (hw : w0.heap.size ≤ w.heap.size) (W : World) (l : Nat) (o o' : Obj) (h0 : w.heap.size ≤ l) (hl : W.heap[l]? = some o) (hc : o.isCells = false) (_ : o.isWalk = false) : SInv w0 B1 B2 B3 B4 gv a n need W → SInv w0 B1 B2 B3 B4 gv a n need (W.putObj l o') :=
  fun h => h.own (grownBy_putObj' W l o') (fun r e => by cases e; exact ⟨Nat.le_trans hw h0, o, hl, hc⟩)
theorem gSpan.calls (gv : Array Value) (hgv : ∃ v0 v1 v2 v3 : Value, gv = #[v0, v1, v2, v3] ∧ True) (a n need : Int) (w : World) :
    Calls Try.prog 57 #[.agg gv, .int .u32 a, .int .i64 n, .int .i64 need] w fun e w' => e = .returned (.func (.func 85) #[] #[.pointer (some ⟨w.heap.size + 1, 0, none⟩), .pointer (some ⟨w.heap.size + 1 + 1, 0, none⟩), .pointer (some ⟨w.heap.size, 0, none⟩), .pointer (some ⟨w.heap.size + 1 + 1 + 1, 0, none⟩)]) ∧
      w' = (((w.alloc (.cells gv 29)).alloc (.cells #[.int .u32 a] 30)).alloc (.cells #[.int .i64 n] 3)).alloc (.cells #[.int .i64 need] 3) := by
  have hu2 := Try.underlying29
  obtain ⟨v0, v1, v2, v3, rfl, _⟩ := hgv
  go_enter Try.func57, Try.ntmps57
  go_wp2
  go_ret
  exact ⟨rfl, rfl⟩
end Go.Proofs.Ytgkjdpdmmlalcaa.F
end
section
namespace Go.Proofs.Ytgkjdpdmmlalcaa.F
open Go.RowKit Go.Shelf Go.Proofs.YtgkjdpdmmlalcaaW.PrintWords Go.Proofs.YtgkjdpdmmlalcaaW.PrintLast Go.Proofs.YtgkjdpdmmlalcaaW.PrintMore
set_option linter.unusedVariables false
set_option linter.unusedSimpArgs false
attribute [local go_sem] Oper.semAt_some
def firstS (p : List SP) (a n need : Int) : Int × Int := match (spanL a n).find? (fun x => decide (kindS p need x ≠ 0)) with
  | some x => (kindS p need x, x)
  | none => (0, 0)
def okSp (p : List SP) (a n : Int) : Bool := risesB pgK p && decide (p.length ≤ 1000000 ∧ 0 ≤ a ∧ a < 4294967296 ∧ 0 ≤ n ∧ n < 4294967296)
theorem okSp_iff {p : List SP} {a n : Int} : okSp p a n = true ↔ Rises pgK p ∧ p.length ≤ 1000000 ∧ 0 ≤ a ∧ a < 4294967296 ∧ 0 ≤ n ∧ n < 4294967296 := by
  unfold okSp
  rw [Bool.and_eq_true, decide_eq_true_iff, risesB_iff]
theorem firstS_none {p : List SP} {a n need : Int} (h : ∀ x ∈ spanL a n, kindS p need x = 0) : firstS p a n need = (0, 0) := by
  unfold firstS
  rw [List.find?_eq_none.2 (fun x hx => by rw [h x hx]; decide)]
theorem firstS_some {p : List SP} {a n need x : Int} {pre : List Int} (hp : pre ++ [x] <+: spanL a n) (h : ∀ y ∈ pre, kindS p need y = 0) (hx : kindS p need x ≠ 0) : firstS p a n need = (kindS p need x, x) := by
  obtain ⟨l, hl⟩ := hp
  unfold firstS
  rw [← hl, List.append_assoc, List.find?_append, List.find?_eq_none.2 (fun y hy => by rw [h y hy]; decide)]
  simp [hx]
-- HAND fn=ferry/gmem.first ; rounds=0 ; making=1 ; laid=0
def gmem_first.f (l0 : List SM) (l1 : List SC) (b : Int) (p : List SP) (a n need : Int) : Option (Int × Int) := if okSp p a n = true then some (firstS p a n need) else none
structure FirI (w : World) (B1 B2 B3 B4 : Nat) (gv : Array Value) (a n need : Int) (p : List SP) (pre : List Int) (W : World) : Prop where
  z : ∀ x ∈ pre, kindS p need (x % 18446744073709551616) = 0
  s : SInv w B1 B2 B3 B4 gv a n need W
  f : W.heap[w.heap.size + 1]? = some (.cells #[.int .i64 0, .int .u64 0] 34 (0, 0))
def FirX (w : World) (p : List SP) (need : Int) (c : Code) (pre : List Int) (W : World) : Prop :=
  c = .exit 0 ∧ ∃ pre' x, pre = pre' ++ [x] ∧ (∀ y ∈ pre', kindS p need (y % 18446744073709551616) = 0) ∧ kindS p need (x % 18446744073709551616) ≠ 0 ∧ Below w.heap.size w W ∧
    W.heap[w.heap.size + 1]? = some (.cells #[.int .i64 (kindS p need (x % 18446744073709551616)), .int .u64 (x % 18446744073709551616)] 34 (0, 0))
theorem blk_nw2 (w : World) (o o' o'' : Obj) : (((w.alloc o).alloc o').alloc o'').heap[w.heap.size + 1 + 1]? = some o'' := by
  have h := blk_new1 (w.alloc o) o' o''
  rwa [World.size_alloc] at h
theorem blk_nw3 (w : World) (o o' o'' o3 : Obj) : ((((w.alloc o).alloc o').alloc o'').alloc o3).heap[w.heap.size + 1 + 1 + 1]? = some o3 := by
  have h := blk_nw2 (w.alloc o) o' o'' o3
  rwa [World.size_alloc] at h
theorem noGoto_ret {Q : Exit → Act → World → Prop} {a : Act} {w : World} : Exit.noGoto Q .ret a w = Q .ret a w := rfl
theorem below_4 (w : World) (o o' o'' o3 : Obj) : Below w.heap.size w ((((w.alloc o).alloc o').alloc o'').alloc o3) :=
  ((((Below.refl _ w).alloc (Nat.le_refl _) o).alloc (by simp) o').alloc (by simp; omega) o'').alloc (by simp; omega) o3
set_option maxHeartbeats 8000000 in
set_option maxRecDepth 100000 in
theorem gmem_first.calls (A0_0 : Option Addr) (c0_0 : Nat) (l0_0 : List SM) (A0_1 : Option Addr) (c0_1 : Nat) (l0_1 : List SC) (a0_2 : Int) (A0_3 : Option Addr) (c0_3 : Nat) (l0_3 : List SP) (a1 a2 a3 : Int) (r1 r2 : Int) (w : World) (hr0_0 : Kd.C kM w A0_0 l0_0.length l0_0) (hc0_0 : l0_0.length ≤ c0_0) (hr0_1 : Kd.C kC w A0_1 l0_1.length l0_1) (hc0_1 : l0_1.length ≤ c0_1) (hr0_3 : Kd.C kP w A0_3 l0_3.length l0_3) (hc0_3 : l0_3.length ≤ c0_3) (h : gmem_first.f l0_0 l0_1 a0_2 l0_3 a1 a2 a3 = some (r1, r2)) :
    Calls Try.prog 41 #[.agg #[.slice A0_0 l0_0.length c0_0, .slice A0_1 l0_1.length c0_1, .int .u64 a0_2, .slice A0_3 l0_3.length c0_3], .int .u32 a1, .int .i64 a2, .int .i64 a3] w fun e w' => e = .returned (.agg #[.int .i64 r1, .int .u64 r2]) ∧ Below w.heap.size w w' := by
  unfold gmem_first.f at h
  split at h
  case isFalse => cases h
  rename_i hok
  obtain ⟨hs, hp, ha, ha2, hn, hn2⟩ := okSp_iff.1 hok
  have HR := Lib.hid (Option.some.inj h)
  have GR := Lib.hid (show GRead w A0_0 c0_0 l0_0 A0_1 c0_1 l0_1 A0_3 c0_3 l0_3 from ⟨hr0_0, hc0_0, hr0_1, hc0_1, hr0_3, hc0_3, hp, hs⟩)
  have NA := Lib.hid (And.intro ha ha2)
  have NN := Lib.hid (And.intro hn hn2)
  clear h hok hs hp ha ha2 hn hn2 hr0_0 hc0_0 hr0_1 hc0_1 hr0_3 hc0_3
  have hu2 := Try.underlying29
  have hu3 := Try.underlying25
  have hu4 := Try.underlying34
  refine (callsIn_wide (n := 6)).1 ?_
  refine callsIn_of_wp_marks Try.func41 rfl trivial ?_ rfl
  simp only [Try.ntmps41, List.size_toArray, List.length_cons, List.length_nil, Nat.reduceAdd, Nat.reduceSub, Array.replicate_succ, Array.replicate_zero, List.push_toArray, List.append_toArray, List.nil_append, List.cons_append]
  have K4 := Lib.hid (blk_alloc (blk_new w (.cells #[.slice A0_0 l0_0.length c0_0, .slice A0_1 l0_1.length c0_1, .int .u64 a0_2, .slice A0_3 l0_3.length c0_3] 29)) (.cells #[.int .i64 0, .int .u64 0] 34))
  have q4_0 := (sblk_cell K4.out 0).trans rfl
  have q4_1 := (sblk_cell K4.out 1).trans rfl
  have q4_2 := (sblk_cell K4.out 2).trans rfl
  have q4_3 := (sblk_cell K4.out 3).trans rfl
  gi_wp2_with (fail)
  refine wpIn_wide.2 (wp_scope_straight ((wpIn_wide (n := 6)).1 ?_))
  refine wpIn_seq (wpIn_label ?_)
  show Code.wpIn _ _ _ _ _ _ _
  have B0 := Lib.hid (blk_new1 w (.cells #[.slice A0_0 l0_0.length c0_0, .slice A0_1 l0_1.length c0_1, .int .u64 a0_2, .slice A0_3 l0_3.length c0_3] 29) (.cells #[.int .i64 0, .int .u64 0] 34))
  have D0 := Lib.hid (((Below.refl _ w).alloc (Nat.le_refl _) (.cells #[.slice A0_0 l0_0.length c0_0, .slice A0_1 l0_1.length c0_1, .int .u64 a0_2, .slice A0_3 l0_3.length c0_3] 29)).alloc (by simp) (.cells #[.int .i64 0, .int .u64 0] 34))
  have Z0 := Lib.hid (show ((w.alloc (.cells #[.slice A0_0 l0_0.length c0_0, .slice A0_1 l0_1.length c0_1, .int .u64 a0_2, .slice A0_3 l0_3.length c0_3] 29)).alloc (.cells #[.int .i64 0, .int .u64 0] 34)).heap.size = w.heap.size + 2 by simp)
  generalize (w.alloc (.cells #[.slice A0_0 l0_0.length c0_0, .slice A0_1 l0_1.length c0_1, .int .u64 a0_2, .slice A0_3 l0_3.length c0_3] 29)).alloc (.cells #[.int .i64 0, .int .u64 0] 34) = y1 at B0 D0 Z0 K4 q4_0 q4_1 q4_2 q4_3 ⊢
  gi_wp2_with (refine ⟨trivial, ?_⟩; gi_at_call 57; refine (callsIn_wide.2 (gSpan.calls #[.slice A0_0 l0_0.length c0_0, .slice A0_1 l0_1.length c0_1, .int .u64 a0_2, .slice A0_3 l0_3.length c0_3] ⟨_, _, _, _, rfl, trivial⟩ a1 a2 a3 _)).mono ?_; rintro e w' ⟨rfl, rfl⟩)
  have S0 := Lib.hid (show SInv w (y1.heap.size + 1) (y1.heap.size + 1 + 1) y1.heap.size (y1.heap.size + 1 + 1 + 1) #[.slice A0_0 l0_0.length c0_0, .slice A0_1 l0_1.length c0_1, .int .u64 a0_2, .slice A0_3 l0_3.length c0_3] a1 a2 a3 ((((y1.alloc (.cells #[.slice A0_0 l0_0.length c0_0, .slice A0_1 l0_1.length c0_1, .int .u64 a0_2, .slice A0_3 l0_3.length c0_3] 29)).alloc (.cells #[.int .u32 a1] 30)).alloc (.cells #[.int .i64 a2] 3)).alloc (.cells #[.int .i64 a3] 3)) from ⟨D0.out.trans ((below_4 y1 _ _ _ _).mono D0.out.size), blk_alloc (blk_alloc (blk_new1 y1 _ _) _) _, blk_alloc (blk_nw2 y1 _ _ _) _, blk_alloc (blk_alloc (blk_alloc (blk_new y1 _) _) _) _, blk_nw3 y1 _ _ _ _⟩)
  have F0 := Lib.hid (blk_alloc (blk_alloc (blk_alloc (blk_alloc B0.out (.cells #[.slice A0_0 l0_0.length c0_0, .slice A0_1 l0_1.length c0_1, .int .u64 a0_2, .slice A0_3 l0_3.length c0_3] 29)) (.cells #[.int .u32 a1] 30)) (.cells #[.int .i64 a2] 3)) (.cells #[.int .i64 a3] 3))
  have S3 := Lib.hid (show w.heap.size ≤ ((((y1.alloc (.cells #[.slice A0_0 l0_0.length c0_0, .slice A0_1 l0_1.length c0_1, .int .u64 a0_2, .slice A0_3 l0_3.length c0_3] 29)).alloc (.cells #[.int .u32 a1] 30)).alloc (.cells #[.int .i64 a2] 3)).alloc (.cells #[.int .i64 a3] 3)).heap.size from S0.out.bel.size)
  have Z1 := Lib.hid (show w.heap.size + 1 < ((((y1.alloc (.cells #[.slice A0_0 l0_0.length c0_0, .slice A0_1 l0_1.length c0_1, .int .u64 a0_2, .slice A0_3 l0_3.length c0_3] 29)).alloc (.cells #[.int .u32 a1] 30)).alloc (.cells #[.int .i64 a2] 3)).alloc (.cells #[.int .i64 a3] 3)).heap.size from sblk_lt F0.out)
  clear K4 B0 D0 q4_0 q4_1 q4_2 q4_3
  generalize ((((y1.alloc (.cells #[.slice A0_0 l0_0.length c0_0, .slice A0_1 l0_1.length c0_1, .int .u64 a0_2, .slice A0_3 l0_3.length c0_3] 29)).alloc (.cells #[.int .u32 a1] 30)).alloc (.cells #[.int .i64 a2] 3)).alloc (.cells #[.int .i64 a3] 3)) = y2 at S0 F0 S3 Z1 ⊢
  generalize y1.heap.size = B at S0 Z0 ⊢
  clear Z0 y1
  refine' wpIn_rangeFunc_ownG rfl (by omega) (gf := 85) (lb := #[.pointer (some ⟨B + 1, 0, none⟩), .pointer (some ⟨B + 1 + 1, 0, none⟩), .pointer (some ⟨B, 0, none⟩), .pointer (some ⟨B + 1 + 1 + 1, 0, none⟩)]) rfl trivial (enters_of Try.func85 (by kernel_rfl) rfl)
    (gSpan_stops (6 - 1) w (B + 1) (B + 1 + 1) B (B + 1 + 1 + 1) A0_0 c0_0 l0_0 A0_1 c0_1 l0_1 a0_2 A0_3 c0_3 l0_3 a1 a2 a3 GR.out NA.out.1 NA.out.2 NN.out.1 NN.out.2 _ S0.out) (fun h k x => k (h x)) (sinv_b S3.out) (Below.refl _ _) (fun _ => rfl)
    (FirI w (B + 1) (B + 1 + 1) B (B + 1 + 1 + 1) #[.slice A0_0 l0_0.length c0_0, .slice A0_1 l0_1.length c0_1, .int .u64 a0_2, .slice A0_3 l0_3.length c0_3] a1 a2 a3 l0_3) (FirX w l0_3 a3)
    (fun pre A A' row hs hg hr => ⟨hs.z, hs.s.own hg (fun r e => ⟨Nat.le_trans S3.out (hr r e).1, (hr r e).2⟩), blk_own hs.f hg (fun r e => (hr r e).2)⟩)
    (fun c pre A A' row hs hg hr => ⟨hs.1, by
      obtain ⟨pre', x, e, h1, h2, h3, h4⟩ := hs.2
      exact ⟨pre', x, e, h1, h2, h3.grown hg h3.size (fun k e => Nat.le_trans S3.out (hr k e).1), blk_own h4 hg (fun r e => (hr r e).2)⟩⟩)
    ⟨(fun x hx => by cases hx), S0.out, F0.out⟩
    (fun x => { tmps := #[.agg #[.slice A0_0 l0_0.length c0_0, .slice A0_1 l0_1.length c0_1, .int .u64 a0_2, .slice A0_3 l0_3.length c0_3], .int .u32 a1, .int .i64 a2, .int .i64 a3, .pointer (some ⟨w.heap.size, 0, none⟩), undef, undef, undef, .pointer (some ⟨w.heap.size + 1, 0, none⟩), .int .u64 (x % 18446744073709551616), .int .i64 (kindS l0_3 a3 (x % 18446744073709551616)), .agg #[.slice A0_0 l0_0.length c0_0, .slice A0_1 l0_1.length c0_1, .int .u64 a0_2, .slice A0_3 l0_3.length c0_3], .int .u32 a1, .int .i64 a2, .int .i64 a3, .func (.func 85) #[] #[.pointer (some ⟨B + 1, 0, none⟩), .pointer (some ⟨B + 1 + 1, 0, none⟩), .pointer (some ⟨B, 0, none⟩), .pointer (some ⟨B + 1 + 1 + 1, 0, none⟩)], .int .u64 (x % 18446744073709551616), .int .i64 (kindS l0_3 a3 (x % 18446744073709551616)), undef, undef, undef, undef, undef, undef], defers := [] }) ?assign ?body ?done ?stop
  case assign =>
    intro l x W K hK
    gi_wp2
    exact hK
  case body =>
    rintro l pre x W hI hlen
    have II := Lib.hid hI
    clear hI hlen
    have c0 := (sblk_cell II.out.f 0).trans rfl
    have c1 := (sblk_cell II.out.f 1).trans rfl
    have f0 := sblk_free II.out.f 0
    have f1 := sblk_free II.out.f 1
    obtain ⟨q, hq⟩ : ∃ q, kindS l0_3 a3 (x % 18446744073709551616) = q := ⟨_, rfl⟩
    rw [hq]
    have HQ := Lib.hid hq
    clear hq
    by_cases h0 : q = 0
    · subst h0
      gi_wp2
      exact ⟨KeepsFrom.refl _ _, fun h => h, ⟨fun y hy => by
        rcases List.mem_append.1 hy with h | h
        · exact II.out.z y h
        · rw [List.mem_singleton.1 h]; exact HQ.out, II.out.s, II.out.f⟩⟩
    have hb : (q != 0) = true := by simpa using h0
    have HN := Lib.hid h0
    clear h0
    gi_wp2
    refine ⟨?_, rfl, pre, x, rfl, II.out.z, by rw [HQ.out]; exact HN.out, ?_, ?_⟩
    · exact ((KeepsOthers.setCell _ _ _).trans (KeepsOthers.setCell _ _ _)).from _
    · exact (II.out.s.bel.setCell (p := ⟨w.heap.size + 1, 0, none⟩) (Nat.le_succ _) _).setCell (p := ⟨w.heap.size + 1, 1, none⟩) (Nat.le_succ _) _
    · rw [HQ.out]
      exact blk_put (blk_put II.out.f 0 _ rfl) 1 _ rfl
  case done =>
    rintro D ys W hD rfl hI hK
    have HF := Lib.hid hI.f
    have HB := Lib.hid hI.s.bel
    have hz := hI.z
    obtain rfl : (0 : Int) = r1 := by
      have h := HR.out
      rw [firstS_none (fun x hx => by have h1 := hz x hx; rwa [spanL_mod NA.out.1 (by have := NA.out; have := NN.out; omega) x hx] at h1)] at h
      exact (Prod.mk.inj h).1
    obtain rfl : (0 : Int) = r2 := by
      have h := HR.out
      rw [firstS_none (fun x hx => by have h1 := hz x hx; rwa [spanL_mod NA.out.1 (by have := NA.out; have := NN.out; omega) x hx] at h1)] at h
      exact (Prod.mk.inj h).2
    clear hI hz
    have DD := Lib.hid (Nat.le_trans S3.out hD)
    have d1 : D ≠ w.heap.size + 1 := by have := Z1.out; omega
    have hbD := fun o' => belowK_b (n₀ := w.heap.size) (w := w) (Nat.le_refl _) W D _ o' (Nat.le_trans S3.out hD) hK rfl rfl
    have HD := Lib.hid hbD
    have KD := Lib.hid hK
    have ND := Lib.hid d1
    clear hbD hD hK d1
    have c0 := (sblk_cell HF.out 0).trans rfl
    have c1 := (sblk_cell HF.out 1).trans rfl
    have f0 := sblk_free HF.out 0
    have f1 := sblk_free HF.out 1
    gi_wp2
    rw [noGoto_ret]
    dsimp +zetaDelta only
    have K2 := Lib.hid (show ((W.setCell ⟨w.heap.size + 1, 0, none⟩ (.int .i64 0)).setCell ⟨w.heap.size + 1, 1, none⟩ (.int .u64 0)).heap[D]? = some (.deferred (some [])) from (set_far ND.out).trans ((set_far ND.out).trans KD.out))
    have H2 := Lib.hid (show ((W.setCell ⟨w.heap.size + 1, 0, none⟩ (.int .i64 0)).setCell ⟨w.heap.size + 1, 1, none⟩ (.int .u64 0)).heap[w.heap.size + 1]? = some (.cells #[.int .i64 0, .int .u64 0] 34 (0, 0)) from blk_put (blk_put HF.out 0 _ rfl) 1 _ rfl)
    have B2 := Lib.hid (show Below w.heap.size w ((W.setCell ⟨w.heap.size + 1, 0, none⟩ (.int .i64 0)).setCell ⟨w.heap.size + 1, 1, none⟩ (.int .u64 0)) from (HB.out.setCell (p := ⟨w.heap.size + 1, 0, none⟩) (Nat.le_succ _) _).setCell (p := ⟨w.heap.size + 1, 1, none⟩) (Nat.le_succ _) _)
    clear c0 c1 f0 f1
    generalize ((W.setCell ⟨w.heap.size + 1, 0, none⟩ (.int .i64 0)).setCell ⟨w.heap.size + 1, 1, none⟩ (.int .u64 0)) = W2 at K2 H2 B2 ⊢
    refine ⟨by simp, .inl ⟨_, _, rfl, run_takeDeferred K2.out, ?_⟩⟩
    have u := (World.putObj_heap_other (o := .deferred none) (w := W2) (show w.heap.size + 1 ≠ D from Ne.symm ND.out)).trans H2.out
    have e0 := (sblk_cell u 0).trans rfl
    have e1 := (sblk_cell u 1).trans rfl
    exact ⟨.agg #[.int .i64 0, .int .u64 0], by simp [results, Try.results41, go_sem, e0, e1], rfl, B2.out.trans (belowK_b (n₀ := w.heap.size) (w := w) (Nat.le_refl _) W2 D _ _ DD.out K2.out rfl rfl)⟩
  case stop =>
    rintro D c pre W hD hpre ⟨rfl, pre', x, rfl, h1, h2, h3, h4⟩ hK
    have HF := Lib.hid h4
    have HB := Lib.hid h3
    clear h3 h4
    have hm := spanL_mod (a := a1) (n := a2) NA.out.1 (by have := NA.out; have := NN.out; omega)
    have hx := hm x (hpre.subset (by simp))
    have hfs := firstS_some (need := a3) (p := l0_3) hpre (fun y hy => by have h := h1 y hy; rwa [hm y (hpre.subset (List.mem_append_left _ hy))] at h) (by rwa [hx] at h2)
    rw [hx] at HF
    rw [HR.out] at hfs
    obtain ⟨e1, e2⟩ := Prod.mk.inj hfs
    rw [← e1, ← e2] at HF
    clear hfs e1 e2 hm hx h1 h2 hpre
    have DD := Lib.hid (Nat.le_trans S3.out hD)
    have d1 : D ≠ w.heap.size + 1 := by have := Z1.out; omega
    have hbD := fun o' => belowK_b (n₀ := w.heap.size) (w := w) (Nat.le_refl _) W D _ o' (Nat.le_trans S3.out hD) hK rfl rfl
    have HD := Lib.hid hbD
    have KD := Lib.hid hK
    have ND := Lib.hid d1
    clear hbD hD hK d1
    have c0 := (sblk_cell HF.out 0).trans rfl
    have c1 := (sblk_cell HF.out 1).trans rfl
    have f0 := sblk_free HF.out 0
    have f1 := sblk_free HF.out 1
    gi_wp2
    rw [noGoto_ret]
    dsimp +zetaDelta only
    have K2 := Lib.hid (show ((W.setCell ⟨w.heap.size + 1, 0, none⟩ (.int .i64 r1)).setCell ⟨w.heap.size + 1, 1, none⟩ (.int .u64 r2)).heap[D]? = some (.deferred (some [])) from (set_far ND.out).trans ((set_far ND.out).trans KD.out))
    have H2 := Lib.hid (show ((W.setCell ⟨w.heap.size + 1, 0, none⟩ (.int .i64 r1)).setCell ⟨w.heap.size + 1, 1, none⟩ (.int .u64 r2)).heap[w.heap.size + 1]? = some (.cells #[.int .i64 r1, .int .u64 r2] 34 (0, 0)) from blk_put (blk_put HF.out 0 _ rfl) 1 _ rfl)
    have B2 := Lib.hid (show Below w.heap.size w ((W.setCell ⟨w.heap.size + 1, 0, none⟩ (.int .i64 r1)).setCell ⟨w.heap.size + 1, 1, none⟩ (.int .u64 r2)) from (HB.out.setCell (p := ⟨w.heap.size + 1, 0, none⟩) (Nat.le_succ _) _).setCell (p := ⟨w.heap.size + 1, 1, none⟩) (Nat.le_succ _) _)
    clear c0 c1 f0 f1
    generalize ((W.setCell ⟨w.heap.size + 1, 0, none⟩ (.int .i64 r1)).setCell ⟨w.heap.size + 1, 1, none⟩ (.int .u64 r2)) = W2 at K2 H2 B2 ⊢
    refine ⟨by simp, .inl ⟨_, _, rfl, run_takeDeferred K2.out, ?_⟩⟩
    have u := (World.putObj_heap_other (o := .deferred none) (w := W2) (show w.heap.size + 1 ≠ D from Ne.symm ND.out)).trans H2.out
    have e0 := (sblk_cell u 0).trans rfl
    have e1 := (sblk_cell u 1).trans rfl
    exact ⟨.agg #[.int .i64 r1, .int .u64 r2], by simp [results, Try.results41, go_sem, e0, e1], rfl, B2.out.trans (belowK_b (n₀ := w.heap.size) (w := w) (Nat.le_refl _) W2 D _ _ DD.out K2.out rfl rfl)⟩
end Go.Proofs.Ytgkjdpdmmlalcaa.F
end
section
namespace Go.Proofs.Ytgkjdpdmmlalcaa.F
open Go.RowKit Go.Shelf Go.Proofs.YtgkjdpdmmlalcaaW.PrintWords Go.Proofs.YtgkjdpdmmlalcaaW.PrintLast Go.Proofs.YtgkjdpdmmlalcaaW.PrintMore
attribute [local go_sem] max2_int min2_int max_two min_two
set_option linter.unusedVariables false
set_option linter.unusedSimpArgs false
def readGo (l0 : List SM) (l1 : List SC) : Nat → Int → Nat → List UInt8 → Option (List UInt8)
  | 0, _, _, _ => none
  | k + 1, x, n, acc => if 0 < n then (host_Load.f 60 l0 l1 x ((min n 8 : Nat) : Int)).bind fun t => readGo l0 l1 k (IntKind.u64.wrap (x + ((min n 8 : Nat) : Int))) (n - min n 8) (acc ++ leBytes t.1 (min n 8)) else some acc
-- HAND fn=ferry/gmem.read ; rounds=0 ; making=1 ; laid=0
def gmem_read.f (l0 : List SM) (l1 : List SC) (b : Int) (p : List SP) (a n : Int) : Option ByteArray := if 0 ≤ n ∧ n ≤ 70000 then (readGo l0 l1 (n.toNat + 1) (IntKind.u64.wrap (b + IntKind.u64.wrap a)) n.toNat []).bind (fun l => some ⟨l.toArray⟩) else none
set_option maxHeartbeats 8000000 in
set_option maxRecDepth 100000 in
theorem gmem_read.calls (A0_0 : Option Addr) (c0_0 : Nat) (l0_0 : List SM) (A0_1 : Option Addr) (c0_1 : Nat) (l0_1 : List SC) (a0_2 : Int) (A0_3 : Option Addr) (c0_3 : Nat) (l0_3 : List SP) (a1 a2 : Int) (r : ByteArray) (w : World) (hr0_0 : Kd.C kM w A0_0 l0_0.length l0_0) (hc0_0 : l0_0.length ≤ c0_0) (hr0_1 : Kd.C kC w A0_1 l0_1.length l0_1) (hc0_1 : l0_1.length ≤ c0_1) (hr0_3 : Kd.C kP w A0_3 l0_3.length l0_3) (hc0_3 : l0_3.length ≤ c0_3) (h : gmem_read.f l0_0 l0_1 a0_2 l0_3 a1 a2 = some r) :
    Calls Try.prog 42 #[.agg #[.slice A0_0 l0_0.length c0_0, .slice A0_1 l0_1.length c0_1, .int .u64 a0_2, .slice A0_3 l0_3.length c0_3], .int .u32 a1, .int .i64 a2] w fun e w' => e = .returned (.string r) ∧ Below w.heap.size w w' := by
  unfold gmem_read.f at h
  split at h
  case isFalse => cases h
  rename_i hn
  obtain ⟨rs, h1, h2⟩ := Option.bind_eq_some_iff.1 h
  obtain rfl := Option.some.inj h2
  obtain ⟨n, rfl⟩ := Int.eq_ofNat_of_zero_le hn.1
  rw [Int.toNat_natCast] at h1
  have HR := Lib.hid h1
  have HN := Lib.hid (show n ≤ 70000 by omega)
  have LD := Lib.hid (fun W (hB : Below w.heap.size w W) (x m : Int) t (ht : host_Load.f 60 l0_0 l0_1 x m = some t) => host_Load.calls 60 A0_0 c0_0 l0_0 A0_1 c0_1 l0_1 x m t.1 t.2.1 t.2.2 W (Kd.C_below hr0_0 hB) hc0_0 (Kd.C_below hr0_1 hB) hc0_1 ht)
  clear h h1 h2 hn hr0_0 hr0_1 hr0_3 hc0_0 hc0_1 hc0_3
  have hu2 := Try.underlying29
  have hu3 := Try.underlying25
  have hu4 := Try.underlying34
  have K4 := Lib.hid (blk_alloc (blk_new w (.cells #[.slice A0_0 l0_0.length c0_0, .slice A0_1 l0_1.length c0_1, .int .u64 a0_2, .slice A0_3 l0_3.length c0_3] 29)) (.cells #[.pointer none, .slice none 0 0] 95))
  have q4_0 := (sblk_cell K4.out 0).trans rfl
  have q4_1 := (sblk_cell K4.out 1).trans rfl
  have q4_2 := (sblk_cell K4.out 2).trans rfl
  have q4_3 := (sblk_cell K4.out 3).trans rfl
  go_enter Try.func42, Try.ntmps42
  go_wp2_with (go_at_call 75; refine (gPlace_any.calls A0_0 _ c0_0 A0_1 _ c0_1 a0_2 A0_3 _ c0_3 a1 _).mono ?_; rintro e W1 ⟨rfl, hb1⟩)
  have HI0 : Hid (Lib.IsBuilderF 95 5 (w.heap.size + 1) (w.heap.size + 1) (Lib.byteCells []) W1) := by
    have hF := Lib.fresh_isBuilder 95 5 (w.alloc (.cells #[.slice A0_0 l0_0.length c0_0, .slice A0_1 l0_1.length c0_1, .int .u64 a0_2, .slice A0_3 l0_3.length c0_3] 29))
    rw [World.size_alloc] at hF
    exact Lib.hid (Lib.IsBuilderF.of (isBuilder_below hF hb1))
  have B1 := Lib.hid (((Below.refl _ w).alloc (Nat.le_refl _) (.cells #[.slice A0_0 l0_0.length c0_0, .slice A0_1 l0_1.length c0_1, .int .u64 a0_2, .slice A0_3 l0_3.length c0_3] 29)).alloc (by simp) (.cells #[.pointer none, .slice none 0 0] 95) |>.trans (hb1.mono (by simp; omega)))
  have G1 := Lib.hid (blk_below K4.out hb1)
  clear hb1 K4 q4_0 q4_1 q4_2 q4_3
  go_loopw [2, 8] (fun v x wr => ∃ (m : Nat) (X : Int) (f : Nat) (acc : List UInt8), v = .int .i64 m ∧ x = .int .u64 X ∧ acc.length + m = n ∧ readGo l0_0 l0_1 f X m acc = some rs ∧ Lib.IsBuilderF 95 5 (w.heap.size + 1) (w.heap.size + 1) (Lib.byteCells acc) wr ∧ Below w.heap.size w wr ∧ wr.heap[w.heap.size]? = some (.cells #[.slice A0_0 l0_0.length c0_0, .slice A0_1 l0_1.length c0_1, .int .u64 a0_2, .slice A0_3 l0_3.length c0_3] 29 (0, 0))) (fun v _ _ => (intOf v).toNat)
  case atStart => exact ⟨n, _, _, [], rfl, rfl, by simp, HR.out, HI0.out, B1.out, G1.out⟩
  case round =>
    clear HI0 B1 G1 HR
    obtain ⟨m, X, f, acc, rfl, rfl, hm, hR, hI, hB, hG⟩ := hrel
    have HM := Lib.hid hm
    have HI := Lib.hid hI
    have HB := Lib.hid hB
    have HG := Lib.hid hG
    clear hI hB hG hm
    cases f with
    | zero => exact absurd hR (by simp [readGo])
    | succ f =>
      unfold readGo at hR
      by_cases h0 : 0 < m
      · rw [if_pos h0] at hR
        obtain ⟨t, ht, hR2⟩ := Option.bind_eq_some_iff.1 hR
        have HT := Lib.hid ht
        have HR := Lib.hid hR2
        have hd := decide_eq_true (show (0 : Int) < (m : Int) by omega)
        have H0 := Lib.hid h0
        clear hR hR2 ht h0
        have q4_0 := (sblk_cell HG.out 0).trans rfl
        have q4_1 := (sblk_cell HG.out 1).trans rfl
        obtain ⟨k, hk⟩ : ∃ k, min m 8 = k := ⟨_, rfl⟩
        have hk1 : (if (8 : Int) < (m : Int) then (8 : Int) else (m : Int)) = (k : Int) := by split <;> omega
        have HK := Lib.hid hk
        rw [hk] at HT HR
        clear hk
        go_wp2_with (fail)
        refine (LD.out wr HB.out X k t HT.out).mono ?_
        rintro e W2 ⟨rfl, hb2⟩
        have HI2 := Lib.hid (builder_move HI.out (fun k c t f h => (hb2.block k (sblk_lt h)).trans h))
        have HB2 := Lib.hid (HB.out.trans (hb2.mono HB.out.size))
        have HG2 := Lib.hid (blk_below HG.out hb2)
        clear HI HB HG hb2 q4_0 q4_1
        go_wp2_with (fail)
        have hk8 : k ≤ 8 ∧ k ≤ m := by have := HK.out; omega
        have hP : swap_PutLe.f t.1 (k : Int) = some ⟨(leBytes t.1 k).toArray⟩ := by
          unfold swap_PutLe.f
          rw [if_neg (by omega), if_neg (by omega), Int.toNat_natCast]
        refine (swap_PutLe.calls t.1 (k : Int) _ _ hP).mono ?_
        rintro e W4 ⟨rfl, hb4⟩
        have HI4 := Lib.hid (builder_move (HI2.out.alloc (.cells #[.int .i64 t.2.1, .int .u64 t.2.2] 34)) (fun k c t f h => (hb4.block k (sblk_lt h)).trans h))
        have HB4 := Lib.hid ((HB2.out.alloc HB2.out.size (.cells #[.int .i64 t.2.1, .int .u64 t.2.2] 34)).trans (hb4.mono (by rw [World.size_alloc]; have := HB2.out.size; omega)))
        have HG4 := Lib.hid (blk_below (blk_alloc HG2.out (.cells #[.int .i64 t.2.1, .int .u64 t.2.2] 34)) hb4)
        have HK8 := Lib.hid hk8
        clear HI2 HB2 HG2 hb4 hP hk8
        go_wp2_with (fail)
        have hg5 := sblk_lt HG4.out
        have hsz : (leBytes t.1 k).toArray.size = k := by rw [List.size_toArray, leBytes_length]
        refine (Try.Builder_WriteString_k (w.heap.size + 1) (w.heap.size + 1) _ _ _ HI4.out (by
          rw [Lib.byteCells_length]
          have h1 := HM.out
          have h2 := HN.out
          have h3 := HK8.out
          have h4 : (⟨(leBytes t.1 k).toArray⟩ : ByteArray).size = k := hsz
          rw [h4]
          omega) (by omega)).mono ?_
        rintro e W5 ⟨rfl, hb5, hbl5, hok5⟩
        have HI5 := Lib.hid (show Lib.IsBuilderF 95 5 (w.heap.size + 1) (w.heap.size + 1) (Lib.byteCells (acc ++ leBytes t.1 k)) W5 from by
          rw [Lib.byteCells_append]
          exact .inr hb5)
        have HB5 := Lib.hid (HB4.out.trans (hbl5.mono (Nat.le_succ _)))
        have HG5 := Lib.hid ((hbl5.block w.heap.size (Nat.lt_succ_self _)).trans HG4.out)
        clear hb5 hbl5 hok5 HI4 HB4 HG4 hg5 hsz
        go_wp2
        go_roundw
        case rel =>
          have h1 := HK8.out
          have hw : wrap64 ((m : Int) - (k : Int)) = ((m - k : Nat) : Int) := by
            have h2 := HN.out
            have h3 := HM.out
            unfold wrap64
            omega
          exact ⟨m - k, _, f, _, by rw [hw], rfl, by have := HM.out; rw [List.length_append, leBytes_length]; omega, HR.out, HI5.out, HB5.out, HG5.out⟩
        case measure =>
          have h1 := HK8.out
          have h2 := HK.out
          have h3 := H0.out
          have hw : wrap64 ((m : Int) - (k : Int)) = ((m - k : Nat) : Int) := by
            have h2 := HN.out
            have h3 := HM.out
            unfold wrap64
            omega
          rw [hw]
          simp [intOf]
          omega
      rw [if_neg h0] at hR
      obtain rfl := Option.some.inj hR
      obtain rfl : m = 0 := by omega
      have hg5 := sblk_lt HG.out
      clear h0 hR
      go_wp2_with (go_at_call 58; refine (Try.Builder_String_any_k (w.heap.size + 1) (w.heap.size + 1) _ _ HI.out (by omega)).mono ?_; rintro e W1 ⟨rfl, _, hbl, _⟩)
      go_ret
      exact ⟨rfl, HB.out.trans (hbl.mono (Nat.le_succ _))⟩
end Go.Proofs.Ytgkjdpdmmlalcaa.F
end
section
namespace Go.Proofs.Ytgkjdpdmmlalcaa.F
open Go.RowKit Go.Proofs.YtgkjdpdmmlalcaaW.PrintWords Go.Proofs.YtgkjdpdmmlalcaaW.PrintLast Go.Proofs.YtgkjdpdmmlalcaaW.PrintMore
attribute [local go_sem] max2_int min2_int max_two min_two max_three min_three max_four min_four
attribute [local go_sem] cell_twice
set_option linter.unusedVariables false
set_option linter.unusedSimpArgs false

def gmem_Bytes.f (l0_0 : List (S83)) (l0_1 : List (S88)) (a0_2 : Int) (l0_3 : List (S41)) (a1 : Int) (a2 : Int) : Option (ByteArray × Int × Int) := if a2 > 65536 then (some ((⟨#[]⟩ : ByteArray), 1, 0)) else ((gmem_first.f l0_0 l0_1 a0_2 l0_3 a1 (wrap64 (a2)) 1).bind fun bt145 => (if bt145.1 = 0 then ((gmem_read.f l0_0 l0_1 a0_2 l0_3 a1 (wrap64 (a2))).bind fun t148 => (some (t148, 0, 0))) else (some ((⟨#[]⟩ : ByteArray), bt145.1, bt145.2))))
set_option maxHeartbeats 8000000 in
set_option maxRecDepth 100000 in
theorem gmem_Bytes.calls (A0_0 : Option Addr) (c0_0 : Nat) (l0_0 : List (S83)) (A0_1 : Option Addr) (c0_1 : Nat) (l0_1 : List (S88)) (a0_2 : Int) (A0_3 : Option Addr) (c0_3 : Nat) (l0_3 : List (S41)) (a1 : Int) (a2 : Int) (r1 : ByteArray) (r2 : Int) (r3 : Int) (w : World) (hr0_0 : Kd.C k83 w A0_0 l0_0.length l0_0) (hc0_0 : l0_0.length ≤ c0_0) (hr0_1 : Kd.C k88 w A0_1 l0_1.length l0_1) (hc0_1 : l0_1.length ≤ c0_1) (hr0_3 : Kd.C k41 w A0_3 l0_3.length l0_3) (hc0_3 : l0_3.length ≤ c0_3) (h : gmem_Bytes.f l0_0 l0_1 a0_2 l0_3 a1 a2 = some (r1, r2, r3)) :
    Calls Try.prog 13 #[.agg #[.slice A0_0 l0_0.length c0_0, .slice A0_1 l0_1.length c0_1, .int .u64 a0_2, .slice A0_3 l0_3.length c0_3], .int .u32 a1, .int .u32 a2] w fun e w' => e = .returned (.tuple #[.string r1, .agg #[.int .i64 r2, .int .u64 r3]]) ∧ Below w.heap.size w w' := by
  have hu29 := Try.underlying29
  have hu34 := Try.underlying34
  have HR0_0 := Aside0.mk hr0_0
  have HC0_0 := Aside0.mk hc0_0
  clear hr0_0 hc0_0
  have HR0_1 := Aside0.mk hr0_1
  have HC0_1 := Aside0.mk hc0_1
  clear hr0_1 hc0_1
  have HR0_3 := Aside0.mk hr0_3
  have HC0_3 := Aside0.mk hc0_3
  clear hr0_3 hc0_3
  have HB := Aside0.mk (Below.refl w.heap.size w)
  have H : (if a2 > 65536 then (some ((⟨#[]⟩ : ByteArray), 1, 0)) else ((gmem_first.f l0_0 l0_1 a0_2 l0_3 a1 (wrap64 (a2)) 1).bind fun bt145 => (if bt145.1 = 0 then ((gmem_read.f l0_0 l0_1 a0_2 l0_3 a1 (wrap64 (a2))).bind fun t148 => (some (t148, 0, 0))) else (some ((⟨#[]⟩ : ByteArray), bt145.1, bt145.2))))) = some (r1, r2, r3) := h
  clear h
  by_cases c4 : a2 > 65536
  · rw [if_pos c4] at H
    have c4b0 : decide (65536 < a2) = true := decide_eq_true c4
    clear c4
    simp only [Option.some.injEq, Prod.mk.injEq] at H
    obtain ⟨rfl, rfl, rfl⟩ := H
    go_enter Try.func13, Try.ntmps13
    go_wp2_with (first | ((with_reducible refine gate_dst (N := 3) rfl ?_); refine bE_ 3 #[.slice A0_0 l0_0.length c0_0, .slice A0_1 l0_1.length c0_1, .int .u64 a0_2, .slice A0_3 l0_3.length c0_3] 29 ?_; intro gb143 hg w5 hbox hb; have BK143 := Aside0.mk hbox; have GW143 := geT_ w.heap.size hg; have GE143 := geT_ w.heap.size hg; replace HB := hB_ hb; clear hb hbox hg) | ((with_reducible refine gate_dst (N := 7) rfl ?_); refine bE_ 7 #[.int .i64 0, .int .u64 0] 34 ?_; intro gb144 hg w6 hbox hb; have BK144 := Aside0.mk hbox; have GW144 := geT_ w.heap.size hg; have GE144 := geT_ w.heap.size hg; have NB143_144 := nlT_ BK143.out hg; have NB144_143 := ngT_ BK143.out hg; replace BK143 := kB_ BK143 hb; replace HB := hB_ hb; clear hb hbox hg; have hnb7 := NB144_143.out; have hnc7 := NB143_144.out; obtain ⟨hcz8_0, hcz8_1, hfz8_0, hfz8_1⟩ := b2_ BK144.out))
    refine bodyPost_ret (results_tc rfl _ _ gb144 34 #[.int .i64 1, .int .u64 0] (0, 0) _ rfl (kP_ BK144.out) Try.underlying34 rfl (by kernel_rfl)) rfl ?_
    exact ⟨r3_, beT_⟩
  rw [if_neg c4] at H
  have c4b0 : decide (65536 < a2) = false := decide_eq_false c4
  clear c4
  replace H := Option.bind_eq_some_iff.mp H
  obtain ⟨⟨t145, t146⟩, A90, H⟩ := H
  have A9 := Aside0.mk A90
  clear A90
  by_cases c10 : t145 = 0
  · rw [if_pos c10] at H
    have c10b0 : (t145 == 0) = true := beq_iff_eq.mpr c10
    have c10b1 : (t145 != 0) = false := bne_eq_false_iff_eq.mpr c10
    clear c10
    replace H := Option.bind_eq_some_iff.mp H
    obtain ⟨t148, A110, H⟩ := H
    have A11 := Aside0.mk A110
    clear A110
    simp only [Option.some.injEq, Prod.mk.injEq] at H
    obtain ⟨rfl, rfl, rfl⟩ := H
    go_enter Try.func13, Try.ntmps13
    go_wp2_with (first | ((with_reducible refine gate_dst (N := 3) rfl ?_); refine bE_ 3 #[.slice A0_0 l0_0.length c0_0, .slice A0_1 l0_1.length c0_1, .int .u64 a0_2, .slice A0_3 l0_3.length c0_3] 29 ?_; intro gb143 hg w12 hbox hb; have BK143 := Aside0.mk hbox; have GW143 := geT_ w.heap.size hg; have GE143 := geT_ w.heap.size hg; replace HB := hB_ hb; clear hb hbox hg) | ((with_reducible refine gate_dst (N := 7) rfl ?_); refine bE_ 7 #[.int .i64 0, .int .u64 0] 34 ?_; intro gb144 hg w13 hbox hb; have BK144 := Aside0.mk hbox; have GW144 := geT_ w.heap.size hg; have GE144 := geT_ w.heap.size hg; have NB143_144 := nlT_ BK143.out hg; have NB144_143 := ngT_ BK143.out hg; replace BK143 := kB_ BK143 hb; replace HB := hB_ hb; clear hb hbox hg; have hnb14 := NB143_144.out; have hnc14 := NB144_143.out; obtain ⟨hcz15_0, hcz15_1, hcz15_2, hcz15_3, hfz15_0, hfz15_1, hfz15_2, hfz15_3⟩ := b4_ BK143.out) | ((with_reducible refine gate_callee (f := 41) rfl ?_); refine gL_ (some 16) Try.func41 #[.agg #[.slice A0_0 l0_0.length c0_0, .slice A0_1 l0_1.length c0_1, .int .u64 a0_2, .slice A0_3 l0_3.length c0_3], .int .u32 a1, .int .i64 (wrap64 (a2)), .int .i64 1] ?_; (with_reducible refine (gmem_first.calls _ _ l0_0 _ _ l0_1 a0_2 _ _ l0_3 a1 (wrap64 (a2)) 1 t145 t146 _ ?side1 ?side2 ?side3 ?side4 ?side5 ?side6 A9.out).mono ?_); (case side1 => exact cT_ (Kd.C_below HR0_0.out HB.out)); (case side2 => exact HC0_0.out); (case side3 => exact cT_ (Kd.C_below HR0_1.out HB.out)); (case side4 => exact HC0_1.out); (case side5 => exact cT_ (Kd.C_below HR0_3.out HB.out)); (case side6 => exact HC0_3.out); rintro e w16 ⟨rfl, hb⟩; refine ⟨_, rfl, ?_⟩; replace BK143 := kB_ BK143 hb; replace BK144 := kB_ BK144 hb; replace HB := hB_ hb; (try clear hb); (try clear hb2); (try clear hk); (try clear hi)) | ((with_reducible refine gate_dst (N := 8) rfl ?_); refine bE_ 8 #[.int .i64 0, .int .u64 0] 34 ?_; intro gb147 hg w17 hbox hb; have BK147 := Aside0.mk hbox; have GW147 := geT_ w.heap.size hg; have GE147 := geT_ w.heap.size hg; have NB143_147 := nlT_ BK143.out hg; have NB147_143 := ngT_ BK143.out hg; have NB144_147 := nlT_ BK144.out hg; have NB147_144 := ngT_ BK144.out hg; replace BK143 := kB_ BK143 hb; replace BK144 := kB_ BK144 hb; replace HB := hB_ hb; clear hb hbox hg; have hnb18 := NB147_143.out; have hnc18 := NB143_147.out; have hnb19 := NB147_144.out; have hnc19 := NB144_147.out; obtain ⟨hcz20_0, hcz20_1, hfz20_0, hfz20_1⟩ := b2_ BK147.out; obtain ⟨hcz21_0, hcz21_1, hcz21_2, hcz21_3, hfz21_0, hfz21_1, hfz21_2, hfz21_3⟩ := b4_ BK143.out) | ((with_reducible refine gate_callee (f := 42) rfl ?_); refine gL_ (some 25) Try.func42 #[.agg #[.slice A0_0 l0_0.length c0_0, .slice A0_1 l0_1.length c0_1, .int .u64 a0_2, .slice A0_3 l0_3.length c0_3], .int .u32 a1, .int .i64 (wrap64 (a2))] ?_; (with_reducible refine (gmem_read.calls _ _ l0_0 _ _ l0_1 a0_2 _ _ l0_3 a1 (wrap64 (a2)) t148 _ ?side1 ?side2 ?side3 ?side4 ?side5 ?side6 A11.out).mono ?_); (case side1 => exact Kd.C_below HR0_0.out beT_); (case side2 => exact HC0_0.out); (case side3 => exact Kd.C_below HR0_1.out beT_); (case side4 => exact HC0_1.out); (case side5 => exact Kd.C_below HR0_3.out beT_); (case side6 => exact HC0_3.out); rintro e w22 ⟨rfl, hb⟩; refine ⟨_, rfl, ?_⟩; replace BK143 := kB_ BK143 hb; replace BK144 := kB_ BK144 hb; replace BK147 := Aside0.mk (blk_below (g := gb147) (o := .cells #[.int .i64 t145, .int .u64 t146] 34 (0, 0)) (kP_ BK147.out) hb); replace HB := hB_ hb; (try clear hb); (try clear hb2); (try clear hk); (try clear hi); obtain ⟨hcz23_0, hcz23_1, hfz23_0, hfz23_1⟩ := b2_ BK144.out))
    refine bodyPost_ret (results_tc rfl _ _ gb144 34 #[.int .i64 0, .int .u64 0] (0, 0) _ rfl (kP_ BK144.out) Try.underlying34 rfl (by kernel_rfl)) rfl ?_
    exact ⟨r3_, beT_⟩
  rw [if_neg c10] at H
  have c10b0 : (t145 == 0) = false := beq_eq_false_iff_ne.mpr c10
  have c10b1 : (t145 != 0) = true := bne_iff_ne.mpr c10
  simp only [Option.some.injEq, Prod.mk.injEq] at H
  obtain ⟨rfl, rfl, rfl⟩ := H
  go_enter Try.func13, Try.ntmps13
  try go_wp2_with (first | ((with_reducible refine gate_dst (N := 3) rfl ?_); refine bE_ 3 #[.slice A0_0 l0_0.length c0_0, .slice A0_1 l0_1.length c0_1, .int .u64 a0_2, .slice A0_3 l0_3.length c0_3] 29 ?_; intro gb143 hg w24 hbox hb; have BK143 := Aside0.mk hbox; have GW143 := geT_ w.heap.size hg; have GE143 := geT_ w.heap.size hg; replace HB := hB_ hb; clear hb hbox hg) | ((with_reducible refine gate_dst (N := 7) rfl ?_); refine bE_ 7 #[.int .i64 0, .int .u64 0] 34 ?_; intro gb144 hg w25 hbox hb; have BK144 := Aside0.mk hbox; have GW144 := geT_ w.heap.size hg; have GE144 := geT_ w.heap.size hg; have NB143_144 := nlT_ BK143.out hg; have NB144_143 := ngT_ BK143.out hg; replace BK143 := kB_ BK143 hb; replace HB := hB_ hb; clear hb hbox hg; have hnb26 := NB143_144.out; have hnc26 := NB144_143.out; obtain ⟨hcz27_0, hcz27_1, hcz27_2, hcz27_3, hfz27_0, hfz27_1, hfz27_2, hfz27_3⟩ := b4_ BK143.out) | ((with_reducible refine gate_callee (f := 41) rfl ?_); refine gL_ (some 16) Try.func41 #[.agg #[.slice A0_0 l0_0.length c0_0, .slice A0_1 l0_1.length c0_1, .int .u64 a0_2, .slice A0_3 l0_3.length c0_3], .int .u32 a1, .int .i64 (wrap64 (a2)), .int .i64 1] ?_; (with_reducible refine (gmem_first.calls _ _ l0_0 _ _ l0_1 a0_2 _ _ l0_3 a1 (wrap64 (a2)) 1 t145 t146 _ ?side1 ?side2 ?side3 ?side4 ?side5 ?side6 A9.out).mono ?_); (case side1 => exact cT_ (Kd.C_below HR0_0.out HB.out)); (case side2 => exact HC0_0.out); (case side3 => exact cT_ (Kd.C_below HR0_1.out HB.out)); (case side4 => exact HC0_1.out); (case side5 => exact cT_ (Kd.C_below HR0_3.out HB.out)); (case side6 => exact HC0_3.out); rintro e w28 ⟨rfl, hb⟩; refine ⟨_, rfl, ?_⟩; replace BK143 := kB_ BK143 hb; replace BK144 := kB_ BK144 hb; replace HB := hB_ hb; (try clear hb); (try clear hb2); (try clear hk); (try clear hi)) | ((with_reducible refine gate_dst (N := 8) rfl ?_); refine bE_ 8 #[.int .i64 0, .int .u64 0] 34 ?_; intro gb147 hg w29 hbox hb; have BK147 := Aside0.mk hbox; have GW147 := geT_ w.heap.size hg; have GE147 := geT_ w.heap.size hg; have NB143_147 := nlT_ BK143.out hg; have NB147_143 := ngT_ BK143.out hg; have NB144_147 := nlT_ BK144.out hg; have NB147_144 := ngT_ BK144.out hg; replace BK143 := kB_ BK143 hb; replace BK144 := kB_ BK144 hb; replace HB := hB_ hb; clear hb hbox hg; have hnb30 := NB147_143.out; have hnc30 := NB143_147.out; have hnb31 := NB147_144.out; have hnc31 := NB144_147.out; obtain ⟨hcz32_0, hcz32_1, hfz32_0, hfz32_1⟩ := b2_ BK147.out))
  have n0_ : Aside0 (((w29.setCell ⟨gb147, 0, none⟩ (.int .i64 t145)).setCell ⟨gb147, 1, none⟩ (.int .u64 t146)).heap[gb143]? = some (.cells #[.slice A0_0 l0_0.length c0_0, .slice A0_1 l0_1.length c0_1, .int .u64 a0_2, .slice A0_3 l0_3.length c0_3] 29 (0, 0))) := ⟨bfT_ BK143.out⟩
  have n1_ : Aside0 (((w29.setCell ⟨gb147, 0, none⟩ (.int .i64 t145)).setCell ⟨gb147, 1, none⟩ (.int .u64 t146)).heap[gb144]? = some (.cells #[.int .i64 0, .int .u64 0] 34 (0, 0))) := ⟨bfT_ BK144.out⟩
  have n2_ : Aside0 (((w29.setCell ⟨gb147, 0, none⟩ (.int .i64 t145)).setCell ⟨gb147, 1, none⟩ (.int .u64 t146)).heap[gb147]? = some (.cells #[.int .i64 t145, .int .u64 t146] 34 (0, 0))) := ⟨kP_ BK147.out⟩
  have n3_ : Aside0 (Below w.heap.size w ((w29.setCell ⟨gb147, 0, none⟩ (.int .i64 t145)).setCell ⟨gb147, 1, none⟩ (.int .u64 t146))) := ⟨beT_⟩
  (try clear BK143)
  (try clear BK144)
  (try clear BK147)
  (try clear HB)
  generalize ((w29.setCell ⟨gb147, 0, none⟩ (.int .i64 t145)).setCell ⟨gb147, 1, none⟩ (.int .u64 t146)) = w33 at n0_ n1_ n2_ n3_ ⊢
  have BK143 := n0_
  have BK144 := n1_
  have BK147 := n2_
  have HB := n3_
  clear n0_ n1_ n2_ n3_
  replace BK143 := Aside0.mk (blk_drew BK143.out)
  replace BK144 := Aside0.mk (blk_drew BK144.out)
  replace BK147 := Aside0.mk (blk_drew BK147.out)
  replace HB := Aside0.mk (below_drew1 HB.out)
  refine start_ (n := 3) (S := fun w' => w'.cell? ⟨gb147, 0, none⟩ = some (.int .i64 t145) ∧ w'.cell? ⟨gb147, 1, none⟩ = some (.int .u64 t146)) (ds := []) (mb_ 3 0) (by kernel_rfl) rfl rfl ⟨(blk_cell BK147.out 0).trans rfl, (blk_cell BK147.out 1).trans rfl⟩ (fun hHeld => ?_)
  generalize w33.drew = w34 at BK143 BK144 BK147 HB hHeld ⊢
  refine pure_ (i := 1) (N := some 6) (v := ?_) (a' := ?_) (mb_ 3 2) rfl rfl (by kernel_rfl) (fun _ _ _ h => h) (Or.inl ⟨by rfl, ?_⟩) ?_ ?_
  rotate_left
  · intro w'
    go_simp
    with_reducible rfl
  rotate_left
  · simp only [Act.put, List.setIfInBounds_toArray, List.set_cons_zero, List.set_cons_succ, i64_w, i32_w]
    rfl
  refine take_ (i := 0) (N := some 20) (v := ?_) (a' := ?_) (mb_ 3 3) rfl rfl (by kernel_rfl) (fun _ _ _ h => h) (Or.inl ⟨by rfl, ?_⟩) hHeld ?_ ?_
  rotate_left
  · rintro w' ⟨s0, s1⟩
    go_simp
    with_reducible rfl
  rotate_left
  · simp only [Act.put, List.setIfInBounds_toArray, List.set_cons_zero, List.set_cons_succ, i64_w, i32_w]
    rfl
  refine one_ (i := 2) (N := none) (mb_ 3 7) rfl rfl (by kernel_rfl) (by decide) (fun K hK => ?_)
  have hs35 : w34.cell? ⟨gb144, 0, none⟩ = some (.int .i64 0) := (blk_cell BK144.out 0).trans rfl
  have hfs35 := blk_frozen BK144.out 0
  have hns35_0 := NB143_144.out
  have hns35_2 := NB147_144.out
  have hms35_0 := NB144_143.out
  have hms35_2 := NB144_147.out
  have hs36 : w34.cell? ⟨gb144, 1, none⟩ = some (.int .u64 0) := (blk_cell BK144.out 1).trans rfl
  have hfs36 := blk_frozen BK144.out 1
  have hns36_0 := NB143_144.out
  have hns36_2 := NB147_144.out
  have hms36_0 := NB144_143.out
  have hms36_2 := NB144_147.out
  refine skip_ (w1 := ?_) (by rfl) rfl ?_ ?_
  rotate_left
  · go_simp
    rfl
  refine hK.out _ _ ⟨((cell_far (p := ⟨gb144, _, none⟩) NB147_144.out _).trans (((cell_far (p := ⟨gb144, _, none⟩) NB147_144.out _).trans (hHeld.1)))), ((cell_far (p := ⟨gb144, _, none⟩) NB147_144.out _).trans (((cell_far (p := ⟨gb144, _, none⟩) NB147_144.out _).trans (hHeld.2))))⟩ (fun hHeld => ?_)
  clear hK K
  refine done_ (by kernel_rfl) ?_
  try go_wp2
  refine bodyPost_ret (results_tc rfl _ _ gb144 34 #[.int .i64 t145, .int .u64 t146] (0, 0) _ rfl (kP_ BK144.out) Try.underlying34 rfl (by kernel_rfl)) rfl ?_
  exact ⟨r3_, beT_⟩

end Go.Proofs.Ytgkjdpdmmlalcaa.F
end
section
namespace Go.Proofs.Ytgkjdpdmmlalcaa.F
open Go.RowKit Go.Proofs.YtgkjdpdmmlalcaaW.PrintWords Go.Proofs.YtgkjdpdmmlalcaaW.PrintLast Go.Proofs.YtgkjdpdmmlalcaaW.PrintMore
attribute [local go_sem] max2_int min2_int max_two min_two max_three min_three max_four min_four
set_option linter.unusedVariables false
set_option linter.unusedSimpArgs false

def swap_Le.f (a0 : ByteArray) : Option (Int) := (swap_number.f a0 true).bind fun t167 => (some t167)
set_option maxHeartbeats 8000000 in
set_option maxRecDepth 100000 in
theorem swap_Le.calls (a0 : ByteArray) (r : Int) (w : World) (h : swap_Le.f a0 = some r) :
    Calls Try.prog 77 #[.string a0] w fun e w' => e = .returned (.int .u64 r) ∧ Below w.heap.size w w' := by
  have HB := Aside0.mk (Below.refl w.heap.size w)
  have H : ((swap_number.f a0 true).bind fun t167 => (some t167)) = some r := h
  clear h
  replace H := Option.bind_eq_some_iff.mp H
  obtain ⟨t167, A20, H⟩ := H
  have A2 := Aside0.mk A20
  clear A20
  obtain rfl := Option.some.inj H
  go_enter Try.func77, Try.ntmps77
  go_wp2_with (first | ((with_reducible refine gate_callee (f := 80) rfl ?_); refine gL_ (some 4) Try.func80 #[.string a0, .bool true] ?_; (with_reducible refine (swap_number.calls a0 true t167 _ A2.out).mono ?_); rintro e w3 ⟨rfl, hb⟩; refine ⟨_, rfl, ?_⟩; replace HB := hB_ hb; (try clear hb); (try clear hb2); (try clear hk); (try clear hi)))
  go_ret
  exact ⟨r3_, beT_⟩

end Go.Proofs.Ytgkjdpdmmlalcaa.F
end
