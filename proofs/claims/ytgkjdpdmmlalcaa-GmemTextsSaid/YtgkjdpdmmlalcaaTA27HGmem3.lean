import Derived.Test.YtgkjdpdmmlalcaaTZF0
import Derived.Test.YtgkjdpdmmlalcaaTA0
import Derived.Test.YtgkjdpdmmlalcaaTA2
import Derived.Test.YtgkjdpdmmlalcaaTA4
import Derived.Test.YtgkjdpdmmlalcaaTA8
import Derived.Test.YtgkjdpdmmlalcaaTA9HSwap
import Derived.Test.YtgkjdpdmmlalcaaTA10
import Derived.Test.YtgkjdpdmmlalcaaTA12
import Derived.Test.YtgkjdpdmmlalcaaTA13HHost6
import Derived.Test.YtgkjdpdmmlalcaaTA14
import Derived.Test.YtgkjdpdmmlalcaaTA16
import Derived.Test.YtgkjdpdmmlalcaaTA18
import Derived.Test.YtgkjdpdmmlalcaaTA20
section
namespace Go.Proofs.Ytgkjdpdmmlalcaa.F
open Go.RowKit Go.Shelf Go.Proofs.YtgkjdpdmmlalcaaW.PrintWords Go.Proofs.YtgkjdpdmmlalcaaW.PrintLast Go.Proofs.YtgkjdpdmmlalcaaW.PrintMore
attribute [local go_sem] Oper.semAt_some max2_int min2_int max_two min_two
set_option linter.unusedVariables false
set_option linter.unusedSimpArgs false
def rdB (l : List SM) (m : List SC) (b a : Int) : UInt8 := UInt8.ofNat ((loadS l m (IntKind.u64.wrap (b + IntKind.u64.wrap a)) 1).1 / 256 ^ 0 % 256).toNat
theorem wrap_u64_range (x : Int) : 0 ≤ IntKind.u64.wrap x ∧ IntKind.u64.wrap x < 18446744073709551616 := by
  simp [IntKind.wrap, IntKind.bits, IntKind.signed]
  omega
theorem read1 {l : List SM} {m : List SC} (hF : FitH l m) (b : Int) (p : List SP) (a : Int) : gmem_read.f l m b p a 1 = some ⟨#[rdB l m b a]⟩ := by
  have hl := host_Load_spec l hF.cells hF.lr (Nat.le_trans hF.ln (by decide)) (Nat.le_trans hF.mn (by decide)) (wrap_u64_range (b + IntKind.u64.wrap a)).1 (wrap_u64_range (b + IntKind.u64.wrap a)).2 60 (by decide) (n := 1)
  unfold gmem_read.f
  rw [if_pos (by decide)]
  show (readGo l m 2 _ 1 []).bind _ = _
  unfold readGo
  rw [if_pos (by decide), show ((min 1 8 : Nat) : Int) = 1 from rfl, hl]
  dsimp only [Option.bind_some]
  unfold readGo
  rw [if_neg (by decide)]
  rfl
def textRun (l : List SM) (m : List SC) (b : Int) (p : List SP) : List Int → List UInt8 → Option (List UInt8)
  | [], acc => some acc
  | x :: xs, acc => if kindS p 1 x = 0 ∧ rdB l m b (x % 4294967296) ≠ 0 then textRun l m b p xs (acc ++ [rdB l m b (x % 4294967296)]) else none
def textGo (l : List SM) (m : List SC) (b : Int) (p : List SP) : List Int → List UInt8 → ByteArray × Int × Int × Int
  | [], acc => (⟨#[]⟩, 0, 0, 36)
  | x :: xs, acc => if kindS p 1 x ≠ 0 then (⟨#[]⟩, kindS p 1 x, x, 0) else if rdB l m b (x % 4294967296) = 0 then (⟨acc.toArray⟩, 0, 0, 0) else textGo l m b p xs (acc ++ [rdB l m b (x % 4294967296)])
theorem textRun_snoc (l : List SM) (m : List SC) (b : Int) (p : List SP) (x : Int) : ∀ (xs : List Int) (acc : List UInt8), textRun l m b p (xs ++ [x]) acc = (textRun l m b p xs acc).bind (fun r => textRun l m b p [x] r)
  | [], acc => rfl
  | y :: xs, acc => by
    show textRun l m b p (y :: (xs ++ [x])) acc = _
    unfold textRun
    split
    · exact textRun_snoc l m b p x xs _
    · rfl
theorem textGo_run (l : List SM) (m : List SC) (b : Int) (p : List SP) (ys : List Int) : ∀ (xs : List Int) (acc r : List UInt8), textRun l m b p xs acc = some r → textGo l m b p (xs ++ ys) acc = textGo l m b p ys r
  | [], acc, r, h => by cases h; rfl
  | y :: xs, acc, r, h => by
    unfold textRun at h
    split at h
    · rename_i hc
      show textGo l m b p (y :: (xs ++ ys)) acc = _
      rw [textGo, if_neg (by rw [hc.1]; decide), if_neg hc.2]
      exact textGo_run l m b p ys xs _ r h
    · cases h
theorem textRun_len (l : List SM) (m : List SC) (b : Int) (p : List SP) : ∀ (xs : List Int) (acc r : List UInt8), textRun l m b p xs acc = some r → r.length = acc.length + xs.length
  | [], acc, r, h => by cases h; rfl
  | y :: xs, acc, r, h => by
    unfold textRun at h
    split at h
    · have h1 := textRun_len l m b p xs _ r h
      simp only [List.length_append, List.length_cons, List.length_nil] at h1 ⊢
      omega
    · cases h
def textN (n : Int) : Nat := (max 0 (min n 255) + 1).toNat
theorem textN_le (n : Int) : textN n ≤ 256 := by unfold textN; omega
def okTx (l : List SM) (m : List SC) (p : List SP) (a : Int) : Bool := okH l m && (fitB l m && okSp p a 1)
theorem okTx_of {l : List SM} {m : List SC} {p : List SP} {a : Int} (h : okTx l m p a = true) : FitH l m ∧ Rises pgK p ∧ p.length ≤ 1000000 ∧ 0 ≤ a ∧ a < 4294967296 := by
  unfold okTx at h
  rw [Bool.and_eq_true, Bool.and_eq_true] at h
  have hw := okH_wf h.1
  have h2 := okSp_iff.1 h.2.2
  exact ⟨(fitB_iff hw.1 hw.2).1 h.2.1, h2.1, h2.2.1, h2.2.2.1, h2.2.2.2.1⟩
theorem okTx_ok {l : List SM} {m : List SC} {p : List SP} {a : Int} (hF : FitH l m) (hr : Rises pgK p) (hp : p.length ≤ 1000000) (a0 : 0 ≤ a) (a1 : a < 4294967296) : okTx l m p a = true := by
  unfold okTx
  rw [okH_of hF.wl hF.wm, (fitB_iff hF.wl hF.wm).2 hF, okSp_iff.2 ⟨hr, hp, a0, a1, by decide, by decide⟩]
  rfl
-- HAND fn=ferry/gmem.Text ; rounds=0 ; making=1 ; laid=0
def gmem_Text.f (l0 : List SM) (l1 : List SC) (b : Int) (p : List SP) (a n : Int) : Option (ByteArray × Int × Int × Int) := if okTx l0 l1 p a = true then some (textGo l0 l1 b p (spanL a (textN n)) []) else none
theorem keepsB {W W' : World} (hb : Below W.heap.size W W') : KeepsOthers W W' := ⟨hb.size, fun k o ho _ => (hb.block k (sblk_lt ho)).trans ho⟩
structure TxtI (w : World) (B1 B2 B3 B4 : Nat) (gv : Array Value) (a n : Int) (l : List SM) (m : List SC) (b : Int) (p : List SP) (pre : List Int) (W : World) : Prop where
  z : ∃ acc, textRun l m b p (pre.map (fun x => x % 18446744073709551616)) [] = some acc ∧ Lib.IsBuilderF 95 5 (w.heap.size + 1 + 1 + 1 + 1) (w.heap.size + 1 + 1 + 1 + 1) (Lib.byteCells acc) W
  s : SInv w B1 B2 B3 B4 gv a n 1 W
  c3 : W.heap[w.heap.size]? = some (.cells gv 29 (0, 0))
  c6 : W.heap[w.heap.size + 1]? = some (.cells #[.string ⟨#[]⟩] 9 (0, 0))
  c7 : W.heap[w.heap.size + 1 + 1]? = some (.cells #[.int .i64 0, .int .u64 0] 34 (0, 0))
  c8 : W.heap[w.heap.size + 1 + 1 + 1]? = some (.cells #[.int .i64 0] 53 (0, 0))
structure TxtR (w : World) (r : ByteArray × Int × Int × Int) (W : World) : Prop where
  bel : Below w.heap.size w W
  c6 : W.heap[w.heap.size + 1]? = some (.cells #[.string r.1] 9 (0, 0))
  c7 : W.heap[w.heap.size + 1 + 1]? = some (.cells #[.int .i64 r.2.1, .int .u64 r.2.2.1] 34 (0, 0))
  c8 : W.heap[w.heap.size + 1 + 1 + 1]? = some (.cells #[.int .i64 r.2.2.2] 53 (0, 0))
theorem TxtR.own {w : World} {r : ByteArray × Int × Int × Int} {W W' : World} {row : Option Nat} (h : TxtR w r W) (hg : W.grownBy W' row) (hr : ∀ r, row = some r → w.heap.size ≤ r ∧ ∃ o : Obj, W.heap[r]? = some o ∧ o.isCells = false) : TxtR w r W' :=
  ⟨h.bel.grown hg h.bel.size (fun k e => (hr k e).1), blk_own h.c6 hg (fun r e => (hr r e).2), blk_own h.c7 hg (fun r e => (hr r e).2), blk_own h.c8 hg (fun r e => (hr r e).2)⟩
theorem TxtR.put {w W : World} {gs : ByteArray} {k0 x0 e0 : Int} (hB : Below w.heap.size w W) (h6 : W.heap[w.heap.size + 1]? = some (.cells #[.string gs] 9 (0, 0))) (h7 : W.heap[w.heap.size + 1 + 1]? = some (.cells #[.int .i64 k0, .int .u64 x0] 34 (0, 0))) (h8 : W.heap[w.heap.size + 1 + 1 + 1]? = some (.cells #[.int .i64 e0] 53 (0, 0))) (s : ByteArray) (k x e : Int) :
    TxtR w (s, k, x, e) ((((W.setCell ⟨w.heap.size + 1, 0, none⟩ (.string s)).setCell ⟨w.heap.size + 1 + 1, 0, none⟩ (.int .i64 k)).setCell ⟨w.heap.size + 1 + 1, 1, none⟩ (.int .u64 x)).setCell ⟨w.heap.size + 1 + 1 + 1, 0, none⟩ (.int .i64 e)) ∧
    (∀ j, j ≠ w.heap.size + 1 → j ≠ w.heap.size + 1 + 1 → j ≠ w.heap.size + 1 + 1 + 1 → ((((W.setCell ⟨w.heap.size + 1, 0, none⟩ (.string s)).setCell ⟨w.heap.size + 1 + 1, 0, none⟩ (.int .i64 k)).setCell ⟨w.heap.size + 1 + 1, 1, none⟩ (.int .u64 x)).setCell ⟨w.heap.size + 1 + 1 + 1, 0, none⟩ (.int .i64 e)).heap[j]? = W.heap[j]?) :=
  ⟨⟨(((hB.setCell (p := ⟨w.heap.size + 1, 0, none⟩) (by show w.heap.size ≤ w.heap.size + 1; omega) _).setCell (p := ⟨w.heap.size + 1 + 1, 0, none⟩) (by show w.heap.size ≤ w.heap.size + 1 + 1; omega) _).setCell (p := ⟨w.heap.size + 1 + 1, 1, none⟩) (by show w.heap.size ≤ w.heap.size + 1 + 1; omega) _).setCell (p := ⟨w.heap.size + 1 + 1 + 1, 0, none⟩) (by show w.heap.size ≤ w.heap.size + 1 + 1 + 1; omega) _,
    blk_far (blk_far (blk_far (blk_put h6 0 _ rfl) (by show _ ≠ w.heap.size + 1 + 1; omega) _) (by show _ ≠ w.heap.size + 1 + 1; omega) _) (by show _ ≠ w.heap.size + 1 + 1 + 1; omega) _,
    blk_far (blk_put (blk_put (blk_far h7 (by show _ ≠ w.heap.size + 1; omega) _) 0 _ rfl) 1 _ rfl) (by show _ ≠ w.heap.size + 1 + 1 + 1; omega) _,
    blk_put (blk_far (blk_far (blk_far h8 (by show _ ≠ w.heap.size + 1; omega) _) (by show _ ≠ w.heap.size + 1 + 1; omega) _) (by show _ ≠ w.heap.size + 1 + 1; omega) _) 0 _ rfl⟩,
   fun j h1 h2 h3 => (set_far h3).trans ((set_far h2).trans ((set_far h2).trans (set_far h1)))⟩
def TxtX (w : World) (l : List SM) (m : List SC) (b : Int) (p : List SP) (c : Code) (pre : List Int) (W : World) : Prop :=
  c = .ret ∧ ∃ pre' x acc, pre = pre' ++ [x] ∧ textRun l m b p (pre'.map (fun x => x % 18446744073709551616)) [] = some acc ∧ (kindS p 1 (x % 18446744073709551616) ≠ 0 ∨ rdB l m b (x % 18446744073709551616 % 4294967296) = 0) ∧
    TxtR w (textGo l m b p [x % 18446744073709551616] acc) W
set_option maxHeartbeats 8000000 in
set_option maxRecDepth 100000 in
theorem gmem_Text.calls (A0_0 : Option Addr) (c0_0 : Nat) (l0_0 : List SM) (A0_1 : Option Addr) (c0_1 : Nat) (l0_1 : List SC) (a0_2 : Int) (A0_3 : Option Addr) (c0_3 : Nat) (l0_3 : List SP) (a1 a2 : Int) (r1 : ByteArray) (r2 r3 r4 : Int) (w : World) (hr0_0 : Kd.C kM w A0_0 l0_0.length l0_0) (hc0_0 : l0_0.length ≤ c0_0) (hr0_1 : Kd.C kC w A0_1 l0_1.length l0_1) (hc0_1 : l0_1.length ≤ c0_1) (hr0_3 : Kd.C kP w A0_3 l0_3.length l0_3) (hc0_3 : l0_3.length ≤ c0_3) (h : gmem_Text.f l0_0 l0_1 a0_2 l0_3 a1 a2 = some (r1, r2, r3, r4)) :
    Calls Try.prog 27 #[.agg #[.slice A0_0 l0_0.length c0_0, .slice A0_1 l0_1.length c0_1, .int .u64 a0_2, .slice A0_3 l0_3.length c0_3], .int .u32 a1, .int .i64 a2] w fun e w' => e = .returned (.tuple #[.string r1, .agg #[.int .i64 r2, .int .u64 r3], .int .i64 r4]) ∧ Below w.heap.size w w' := by
  unfold gmem_Text.f at h
  split at h
  case isFalse => cases h
  rename_i hok
  obtain ⟨hF, hs, hp, ha, ha2⟩ := okTx_of hok
  have HR := Lib.hid (Option.some.inj h)
  have GR := Lib.hid (show GRead w A0_0 c0_0 l0_0 A0_1 c0_1 l0_1 A0_3 c0_3 l0_3 from ⟨hr0_0, hc0_0, hr0_1, hc0_1, hr0_3, hc0_3, hp, hs⟩)
  have NA := Lib.hid (And.intro ha ha2)
  have RD := Lib.hid (fun W (hB : Below w.heap.size w W) (x : Int) => gmem_read.calls A0_0 c0_0 l0_0 A0_1 c0_1 l0_1 a0_2 A0_3 c0_3 l0_3 x 1 _ W (Kd.C_below hr0_0 hB) hc0_0 (Kd.C_below hr0_1 hB) hc0_1 (Kd.C_below hr0_3 hB) hc0_3 (read1 hF a0_2 l0_3 x))
  clear h hok hs hp ha ha2 hr0_0 hc0_0 hr0_1 hc0_1 hr0_3 hc0_3 hF
  obtain ⟨N, hN⟩ : ∃ N, textN a2 = N := ⟨_, rfl⟩
  have HN := Lib.hid (show 0 ≤ (N : Int) ∧ (N : Int) < 4294967296 ∧ N ≤ 256 by have := textN_le a2; omega)
  obtain ⟨q1, hq1⟩ : ∃ q1, (if (255 : Int) < a2 then (255 : Int) else a2) = q1 := ⟨_, rfl⟩
  obtain ⟨q2, hq2⟩ : ∃ q2, (if (0 : Int) < q1 then q1 else 0) = q2 := ⟨_, rfl⟩
  have hn0 : q2 + 1 = (N : Int) := by
    rw [← hN, ← hq2, ← hq1]
    unfold textN
    split <;> split <;> omega
  have hn1 : wrap64 (q2 + 1) = (N : Int) := by
    rw [hn0]
    have := HN.out
    unfold wrap64
    omega
  rw [hN] at HR
  clear hN
  have hu2 := Try.underlying29
  have hu3 := Try.underlying25
  have hu4 := Try.underlying34
  refine (callsIn_wide (n := 6)).1 ?_
  refine callsIn_of_wp_marks Try.func27 rfl trivial ?_ rfl
  simp only [Try.ntmps27, List.size_toArray, List.length_cons, List.length_nil, Nat.reduceAdd, Nat.reduceSub, Array.replicate_succ, Array.replicate_zero, List.push_toArray, List.append_toArray, List.nil_append, List.cons_append]
  have K3 := Lib.hid (blk_alloc (blk_alloc (blk_alloc (blk_alloc (blk_new w (.cells #[.slice A0_0 l0_0.length c0_0, .slice A0_1 l0_1.length c0_1, .int .u64 a0_2, .slice A0_3 l0_3.length c0_3] 29)) (.cells #[.string ⟨#[]⟩] 9)) (.cells #[.int .i64 0, .int .u64 0] 34)) (.cells #[.int .i64 0] 53)) (.cells #[.pointer none, .slice none 0 0] 95))
  have q3_0 := (sblk_cell K3.out 0).trans rfl
  have q3_1 := (sblk_cell K3.out 1).trans rfl
  have q3_2 := (sblk_cell K3.out 2).trans rfl
  have q3_3 := (sblk_cell K3.out 3).trans rfl
  gi_wp2_with (fail)
  have K6 := Lib.hid (blk_alloc (blk_alloc (blk_alloc (blk_new1 w (.cells #[.slice A0_0 l0_0.length c0_0, .slice A0_1 l0_1.length c0_1, .int .u64 a0_2, .slice A0_3 l0_3.length c0_3] 29) (.cells #[.string ⟨#[]⟩] 9)) (.cells #[.int .i64 0, .int .u64 0] 34)) (.cells #[.int .i64 0] 53)) (.cells #[.pointer none, .slice none 0 0] 95))
  have K7 := Lib.hid (blk_alloc (blk_alloc (blk_nw2 w (.cells #[.slice A0_0 l0_0.length c0_0, .slice A0_1 l0_1.length c0_1, .int .u64 a0_2, .slice A0_3 l0_3.length c0_3] 29) (.cells #[.string ⟨#[]⟩] 9) (.cells #[.int .i64 0, .int .u64 0] 34)) (.cells #[.int .i64 0] 53)) (.cells #[.pointer none, .slice none 0 0] 95))
  have K8 := Lib.hid (blk_alloc (blk_nw3 w (.cells #[.slice A0_0 l0_0.length c0_0, .slice A0_1 l0_1.length c0_1, .int .u64 a0_2, .slice A0_3 l0_3.length c0_3] 29) (.cells #[.string ⟨#[]⟩] 9) (.cells #[.int .i64 0, .int .u64 0] 34) (.cells #[.int .i64 0] 53)) (.cells #[.pointer none, .slice none 0 0] 95))
  have D0 := Lib.hid ((below_4 w (.cells #[.slice A0_0 l0_0.length c0_0, .slice A0_1 l0_1.length c0_1, .int .u64 a0_2, .slice A0_3 l0_3.length c0_3] 29) (.cells #[.string ⟨#[]⟩] 9) (.cells #[.int .i64 0, .int .u64 0] 34) (.cells #[.int .i64 0] 53)).alloc (by simp; omega) (.cells #[.pointer none, .slice none 0 0] 95))
  have HI0 : Hid (Lib.IsBuilderF 95 5 (w.heap.size + 1 + 1 + 1 + 1) (w.heap.size + 1 + 1 + 1 + 1) (Lib.byteCells []) (((((w.alloc (.cells #[.slice A0_0 l0_0.length c0_0, .slice A0_1 l0_1.length c0_1, .int .u64 a0_2, .slice A0_3 l0_3.length c0_3] 29)).alloc (.cells #[.string ⟨#[]⟩] 9)).alloc (.cells #[.int .i64 0, .int .u64 0] 34)).alloc (.cells #[.int .i64 0] 53)).alloc (.cells #[.pointer none, .slice none 0 0] 95))) := by
    have hF := Lib.fresh_isBuilder 95 5 ((((w.alloc (.cells #[.slice A0_0 l0_0.length c0_0, .slice A0_1 l0_1.length c0_1, .int .u64 a0_2, .slice A0_3 l0_3.length c0_3] 29)).alloc (.cells #[.string ⟨#[]⟩] 9)).alloc (.cells #[.int .i64 0, .int .u64 0] 34)).alloc (.cells #[.int .i64 0] 53))
    simp only [World.size_alloc] at hF
    exact Lib.hid (Lib.IsBuilderF.of hF)
  have Z0 := Lib.hid (show (((((w.alloc (.cells #[.slice A0_0 l0_0.length c0_0, .slice A0_1 l0_1.length c0_1, .int .u64 a0_2, .slice A0_3 l0_3.length c0_3] 29)).alloc (.cells #[.string ⟨#[]⟩] 9)).alloc (.cells #[.int .i64 0, .int .u64 0] 34)).alloc (.cells #[.int .i64 0] 53)).alloc (.cells #[.pointer none, .slice none 0 0] 95)).heap.size = w.heap.size + 5 by simp)
  generalize (((((w.alloc (.cells #[.slice A0_0 l0_0.length c0_0, .slice A0_1 l0_1.length c0_1, .int .u64 a0_2, .slice A0_3 l0_3.length c0_3] 29)).alloc (.cells #[.string ⟨#[]⟩] 9)).alloc (.cells #[.int .i64 0, .int .u64 0] 34)).alloc (.cells #[.int .i64 0] 53)).alloc (.cells #[.pointer none, .slice none 0 0] 95)) = y1 at K3 K6 K7 K8 D0 HI0 Z0 q3_0 q3_1 q3_2 q3_3 ⊢
  gi_wp2_with (refine ⟨trivial, ?_⟩; gi_at_call 57; refine (callsIn_wide.2 (gSpan.calls #[.slice A0_0 l0_0.length c0_0, .slice A0_1 l0_1.length c0_1, .int .u64 a0_2, .slice A0_3 l0_3.length c0_3] ⟨_, _, _, _, rfl, trivial⟩ a1 (N : Int) 1 _)).mono ?_; rintro e w' ⟨rfl, rfl⟩)
  have S0 := Lib.hid (show SInv w (y1.heap.size + 1) (y1.heap.size + 1 + 1) y1.heap.size (y1.heap.size + 1 + 1 + 1) #[.slice A0_0 l0_0.length c0_0, .slice A0_1 l0_1.length c0_1, .int .u64 a0_2, .slice A0_3 l0_3.length c0_3] a1 (N : Int) 1 ((((y1.alloc (.cells #[.slice A0_0 l0_0.length c0_0, .slice A0_1 l0_1.length c0_1, .int .u64 a0_2, .slice A0_3 l0_3.length c0_3] 29)).alloc (.cells #[.int .u32 a1] 30)).alloc (.cells #[.int .i64 (N : Int)] 3)).alloc (.cells #[.int .i64 1] 3)) from ⟨D0.out.trans ((below_4 y1 _ _ _ _).mono D0.out.size), blk_alloc (blk_alloc (blk_new1 y1 _ _) _) _, blk_alloc (blk_nw2 y1 _ _ _) _, blk_alloc (blk_alloc (blk_alloc (blk_new y1 _) _) _) _, blk_nw3 y1 _ _ _ _⟩)
  have L3 := Lib.hid (blk_alloc (blk_alloc (blk_alloc (blk_alloc K3.out (.cells #[.slice A0_0 l0_0.length c0_0, .slice A0_1 l0_1.length c0_1, .int .u64 a0_2, .slice A0_3 l0_3.length c0_3] 29)) (.cells #[.int .u32 a1] 30)) (.cells #[.int .i64 (N : Int)] 3)) (.cells #[.int .i64 1] 3))
  have L6 := Lib.hid (blk_alloc (blk_alloc (blk_alloc (blk_alloc K6.out (.cells #[.slice A0_0 l0_0.length c0_0, .slice A0_1 l0_1.length c0_1, .int .u64 a0_2, .slice A0_3 l0_3.length c0_3] 29)) (.cells #[.int .u32 a1] 30)) (.cells #[.int .i64 (N : Int)] 3)) (.cells #[.int .i64 1] 3))
  have L7 := Lib.hid (blk_alloc (blk_alloc (blk_alloc (blk_alloc K7.out (.cells #[.slice A0_0 l0_0.length c0_0, .slice A0_1 l0_1.length c0_1, .int .u64 a0_2, .slice A0_3 l0_3.length c0_3] 29)) (.cells #[.int .u32 a1] 30)) (.cells #[.int .i64 (N : Int)] 3)) (.cells #[.int .i64 1] 3))
  have L8 := Lib.hid (blk_alloc (blk_alloc (blk_alloc (blk_alloc K8.out (.cells #[.slice A0_0 l0_0.length c0_0, .slice A0_1 l0_1.length c0_1, .int .u64 a0_2, .slice A0_3 l0_3.length c0_3] 29)) (.cells #[.int .u32 a1] 30)) (.cells #[.int .i64 (N : Int)] 3)) (.cells #[.int .i64 1] 3))
  have HI1 := Lib.hid ((((HI0.out.alloc (.cells #[.slice A0_0 l0_0.length c0_0, .slice A0_1 l0_1.length c0_1, .int .u64 a0_2, .slice A0_3 l0_3.length c0_3] 29)).alloc (.cells #[.int .u32 a1] 30)).alloc (.cells #[.int .i64 (N : Int)] 3)).alloc (.cells #[.int .i64 1] 3))
  have S3 := Lib.hid (show w.heap.size ≤ ((((y1.alloc (.cells #[.slice A0_0 l0_0.length c0_0, .slice A0_1 l0_1.length c0_1, .int .u64 a0_2, .slice A0_3 l0_3.length c0_3] 29)).alloc (.cells #[.int .u32 a1] 30)).alloc (.cells #[.int .i64 (N : Int)] 3)).alloc (.cells #[.int .i64 1] 3)).heap.size from S0.out.bel.size)
  have Z1 := Lib.hid (show w.heap.size + 5 ≤ ((((y1.alloc (.cells #[.slice A0_0 l0_0.length c0_0, .slice A0_1 l0_1.length c0_1, .int .u64 a0_2, .slice A0_3 l0_3.length c0_3] 29)).alloc (.cells #[.int .u32 a1] 30)).alloc (.cells #[.int .i64 (N : Int)] 3)).alloc (.cells #[.int .i64 1] 3)).heap.size by have := Z0.out; simp; omega)
  have ZB := Lib.hid (show w.heap.size + 5 ≤ y1.heap.size from Nat.le_of_eq Z0.out.symm)
  clear K3 K6 K7 K8 D0 HI0 Z0 q3_0 q3_1 q3_2 q3_3 hn0 hn1 hq1 hq2
  generalize ((((y1.alloc (.cells #[.slice A0_0 l0_0.length c0_0, .slice A0_1 l0_1.length c0_1, .int .u64 a0_2, .slice A0_3 l0_3.length c0_3] 29)).alloc (.cells #[.int .u32 a1] 30)).alloc (.cells #[.int .i64 (N : Int)] 3)).alloc (.cells #[.int .i64 1] 3)) = y2 at S0 L3 L6 L7 L8 HI1 S3 Z1 ⊢
  generalize y1.heap.size = B at S0 ZB ⊢
  clear y1
  refine' wpIn_rangeFunc_ownG rfl (by omega) (gf := 85) (lb := #[.pointer (some ⟨B + 1, 0, none⟩), .pointer (some ⟨B + 1 + 1, 0, none⟩), .pointer (some ⟨B, 0, none⟩), .pointer (some ⟨B + 1 + 1 + 1, 0, none⟩)]) rfl trivial (enters_of Try.func85 (by kernel_rfl) rfl)
    (gSpan_stops (6 - 1) w (B + 1) (B + 1 + 1) B (B + 1 + 1 + 1) A0_0 c0_0 l0_0 A0_1 c0_1 l0_1 a0_2 A0_3 c0_3 l0_3 a1 (N : Int) 1 GR.out NA.out.1 NA.out.2 HN.out.1 HN.out.2.1 _ S0.out) (fun h k x => k (h x)) (sinv_b S3.out) (Below.refl _ _) (fun _ => rfl)
    (TxtI w (B + 1) (B + 1 + 1) B (B + 1 + 1 + 1) #[.slice A0_0 l0_0.length c0_0, .slice A0_1 l0_1.length c0_1, .int .u64 a0_2, .slice A0_3 l0_3.length c0_3] a1 (N : Int) l0_0 l0_1 a0_2 l0_3) (TxtX w l0_0 l0_1 a0_2 l0_3)
    (fun pre A A' row hs hg hr => by
      obtain ⟨acc, h1, h2⟩ := hs.z
      exact ⟨⟨acc, h1, builder_move h2 (fun k c t f h => cells_kept hg (fun r e => (hr r e).2) h)⟩, hs.s.own hg (fun r e => ⟨Nat.le_trans S3.out (hr r e).1, (hr r e).2⟩), blk_own hs.c3 hg (fun r e => (hr r e).2), blk_own hs.c6 hg (fun r e => (hr r e).2), blk_own hs.c7 hg (fun r e => (hr r e).2), blk_own hs.c8 hg (fun r e => (hr r e).2)⟩)
    (fun c pre A A' row hs hg hr => ⟨hs.1, by
      obtain ⟨pre', x, acc, e, h1, h2, h3⟩ := hs.2
      exact ⟨pre', x, acc, e, h1, h2, h3.own hg (fun k e => ⟨Nat.le_trans S3.out (hr k e).1, (hr k e).2⟩)⟩⟩)
    ⟨⟨[], rfl, HI1.out⟩, S0.out, L3.out, L6.out, L7.out, L8.out⟩
    (fun x => { tmps := #[.agg #[.slice A0_0 l0_0.length c0_0, .slice A0_1 l0_1.length c0_1, .int .u64 a0_2, .slice A0_3 l0_3.length c0_3], .int .u32 a1, .int .i64 a2, .pointer (some ⟨w.heap.size, 0, none⟩), undef, undef, .pointer (some ⟨w.heap.size + 1, 0, none⟩), .pointer (some ⟨w.heap.size + 1 + 1, 0, none⟩), .pointer (some ⟨w.heap.size + 1 + 1 + 1, 0, none⟩), .pointer (some ⟨w.heap.size + 1 + 1 + 1 + 1, 0, none⟩), .int .u64 (x % 18446744073709551616), .int .i64 (kindS l0_3 1 (x % 18446744073709551616)), undef, .agg #[.slice A0_0 l0_0.length c0_0, .slice A0_1 l0_1.length c0_1, .int .u64 a0_2, .slice A0_3 l0_3.length c0_3], .int .u32 a1, .int .i64 a2, .int .i64 q1, .int .i64 q2, .int .i64 (N : Int), .func (.func 85) #[] #[.pointer (some ⟨B + 1, 0, none⟩), .pointer (some ⟨B + 1 + 1, 0, none⟩), .pointer (some ⟨B, 0, none⟩), .pointer (some ⟨B + 1 + 1 + 1, 0, none⟩)], .int .u64 (x % 18446744073709551616), .int .i64 (kindS l0_3 1 (x % 18446744073709551616)), undef, undef, undef, undef, undef, undef, undef, undef, undef, undef, undef, undef, undef, undef, undef, undef], defers := [] }) ?assign ?body ?done ?stop
  case assign =>
    intro l x W K hK
    gi_wp2
    exact hK
  case body =>
    rintro l pre x W hI hlen
    have II := Lib.hid hI
    have HL := Lib.hid (show pre.length < 256 by have := HN.out; rw [Int.toNat_natCast] at hlen; omega)
    clear hI hlen L3 L6 L7 L8 HI1
    obtain ⟨acc, ha, hb⟩ := II.out.z
    have HA := Lib.hid ha
    have HBd := Lib.hid hb
    clear ha hb
    generalize hxm : x % 18446744073709551616 = xx
    have HX := Lib.hid hxm
    clear hxm
    obtain ⟨q, hq⟩ : ∃ q, kindS l0_3 1 xx = q := ⟨_, rfl⟩
    rw [hq]
    have HQ := Lib.hid hq
    clear hq
    by_cases h0 : q = 0
    · subst h0
      have g0 := (sblk_cell II.out.c3 0).trans rfl
      have g1 := (sblk_cell II.out.c3 1).trans rfl
      have g2 := (sblk_cell II.out.c3 2).trans rfl
      have g3 := (sblk_cell II.out.c3 3).trans rfl
      gi_wp2_with (fail)
      refine ⟨trivial, ?_⟩
      refine (CallsIn.inRound l (callsIn_wide.2 (RD.out W II.out.s.bel (xx % 4294967296)))).mono ?_
      rintro e W1 ⟨rfl, hb1⟩
      have K1 := Lib.hid (keepsB hb1)
      have S1 := Lib.hid (II.out.s.below hb1)
      have C3 := Lib.hid (blk_below II.out.c3 hb1)
      have C6 := Lib.hid (blk_below II.out.c6 hb1)
      have C7 := Lib.hid (blk_below II.out.c7 hb1)
      have C8 := Lib.hid (blk_below II.out.c8 hb1)
      have HB1 := Lib.hid (builder_move HBd.out (fun k c t f h => (hb1.block k (sblk_lt h)).trans h))
      have hz1 : w.heap.size + 1 + 1 + 1 + 1 ≤ W1.heap.size := sblk_lt C8.out
      have Z9 := Lib.hid hz1
      clear hb1 HBd g0 g1 g2 g3 hz1
      obtain ⟨y, hy⟩ : ∃ y, rdB l0_0 l0_1 a0_2 (xx % 4294967296) = y := ⟨_, rfl⟩
      rw [hy]
      have HY := Lib.hid hy
      clear hy
      by_cases hy0 : y = 0
      · subst hy0
        have hs : ((⟨#[0]⟩ : ByteArray) == ⟨#[0]⟩) = true := by decide
        gi_wp2_with (fail)
        refine ⟨trivial, ?_⟩
        gi_at_call 58
        refine (CallsIn.inRound l (callsIn_wide.2 (Try.Builder_String_any_k (w.heap.size + 1 + 1 + 1 + 1) (w.heap.size + 1 + 1 + 1 + 1) _ _ HB1.out Z9.out))).mono ?_
        rintro e W2 ⟨rfl, _, hbl, hok⟩
        have K2 := Lib.hid (K1.out.trans (others_keeps hok HB1.out hbl.size))
        have BL2 := Lib.hid (S1.out.bel.trans (hbl.mono (by omega)))
        have E6 := Lib.hid ((hbl.block (w.heap.size + 1) (by omega)).trans C6.out)
        have E7 := Lib.hid ((hbl.block (w.heap.size + 1 + 1) (by omega)).trans C7.out)
        have E8 := Lib.hid ((hbl.block (w.heap.size + 1 + 1 + 1) (by omega)).trans C8.out)
        clear hbl hok K1 S1 C3 C6 C7 C8 HB1 Z9
        have d6 := (sblk_cell E6.out 0).trans rfl
        have d7 := (sblk_cell E7.out 0).trans rfl
        have d7' := (sblk_cell E7.out 1).trans rfl
        have d8 := (sblk_cell E8.out 0).trans rfl
        have f6 := sblk_free E6.out 0
        have f7 := sblk_free E7.out 0
        have f7' := sblk_free E7.out 1
        have f8 := sblk_free E8.out 0
        gi_wp2
        refine ⟨((((K2.out.trans (KeepsOthers.setCell _ _ _)).trans (KeepsOthers.setCell _ _ _)).trans (KeepsOthers.setCell _ _ _)).trans (KeepsOthers.setCell _ _ _)).from _, rfl, pre, x, acc, rfl, HA.out, .inr (by rw [HX.out]; exact HY.out), ?_⟩
        rw [HX.out]
        have h1 := (TxtR.put BL2.out E6.out E7.out E8.out ⟨acc.toArray⟩ 0 0 0).1
        unfold textGo
        rw [if_neg (by rw [HQ.out]; decide), if_pos HY.out]
        exact h1
      have hs2 : (y == 0) = false := beq_eq_false_iff_ne.2 hy0
      have HY0 := Lib.hid hy0
      clear hy0
      have HL2 := Lib.hid (textRun_len l0_0 l0_1 a0_2 l0_3 _ _ _ HA.out)
      gi_wp2_with (fail)
      refine ⟨trivial, ?_⟩
      gi_at_call 59
      refine (CallsIn.inRound l (callsIn_wide.2 (Try.Builder_WriteString_k (w.heap.size + 1 + 1 + 1 + 1) (w.heap.size + 1 + 1 + 1 + 1) _ _ _ HB1.out (by
        have h1 := HL2.out
        have h2 := HL.out
        rw [List.length_map, List.length_nil] at h1
        rw [Lib.byteCells_length]
        show acc.length + 1 ≤ _
        omega) Z9.out))).mono ?_
      rintro e W2 ⟨rfl, hb2, hbl, hok⟩
      have K2 := Lib.hid (K1.out.trans (others_keeps hok HB1.out hbl.size))
      have BL2 := Lib.hid (S1.out.bel.trans (hbl.mono (by omega)))
      have E3 := Lib.hid ((hbl.block w.heap.size (by omega)).trans C3.out)
      have E6 := Lib.hid ((hbl.block (w.heap.size + 1) (by omega)).trans C6.out)
      have E7 := Lib.hid ((hbl.block (w.heap.size + 1 + 1) (by omega)).trans C7.out)
      have E8 := Lib.hid ((hbl.block (w.heap.size + 1 + 1 + 1) (by omega)).trans C8.out)
      have ne1 := fun (k : Nat) (h : B ≤ k) => show some k ≠ some (w.heap.size + 1 + 1 + 1 + 1) by (intro z; have := Option.some.inj z; have := ZB.out; omega)
      have S2 := Lib.hid (show SInv w (B + 1) (B + 1 + 1) B (B + 1 + 1 + 1) #[.slice A0_0 l0_0.length c0_0, .slice A0_1 l0_1.length c0_1, .int .u64 a0_2, .slice A0_3 l0_3.length c0_3] a1 (N : Int) 1 W2 from ⟨BL2.out, others_cells hok S1.out.b1 (ne1 _ (by omega)) (by decide), others_cells hok S1.out.b2 (ne1 _ (by omega)) (by decide), others_cells hok S1.out.b3 (ne1 _ (by omega)) (by decide), others_cells hok S1.out.b4 (ne1 _ (by omega)) (by decide)⟩)
      clear ne1 hbl hok
      gi_wp2
      exact ⟨K2.out.from _, fun _ => S2.out, ⟨acc ++ [y], by
        rw [List.map_append, List.map_singleton, textRun_snoc, HA.out, Option.bind_some, HX.out]
        unfold textRun
        rw [if_pos ⟨HQ.out, by rw [HY.out]; exact HY0.out⟩, HY.out]
        rfl, by rw [Lib.byteCells_append]; exact .inr hb2⟩, S2.out, E3.out, E6.out, E7.out, E8.out⟩
    have hb : (q != 0) = true := by simpa using h0
    have HN0 := Lib.hid h0
    have d6 := (sblk_cell II.out.c6 0).trans rfl
    have d7 := (sblk_cell II.out.c7 0).trans rfl
    have d7' := (sblk_cell II.out.c7 1).trans rfl
    have d8 := (sblk_cell II.out.c8 0).trans rfl
    have f6 := sblk_free II.out.c6 0
    have f7 := sblk_free II.out.c7 0
    have f7' := sblk_free II.out.c7 1
    have f8 := sblk_free II.out.c8 0
    clear h0
    gi_wp2
    refine ⟨((((KeepsOthers.setCell _ _ _).trans (KeepsOthers.setCell _ _ _)).trans (KeepsOthers.setCell _ _ _)).trans (KeepsOthers.setCell _ _ _)).from _, rfl, pre, x, acc, rfl, HA.out, .inl (by rw [HX.out, HQ.out]; exact HN0.out), ?_⟩
    rw [HX.out]
    have h1 := (TxtR.put II.out.s.bel II.out.c6 II.out.c7 II.out.c8 ⟨#[]⟩ q xx 0).1
    unfold textGo
    rw [if_pos (by rw [HQ.out]; exact HN0.out), HQ.out]
    exact h1
  case done =>
    rintro D ys W hD rfl hI hK
    have II := Lib.hid hI
    have DD := Lib.hid (Nat.le_trans S3.out hD)
    have DZ := Lib.hid (Nat.le_trans Z1.out hD)
    have KD := Lib.hid hK
    clear hI hD hK L3 L6 L7 L8 HI1
    have hm := spanL_mod (a := a1) (n := (N : Int)) NA.out.1 (by have := NA.out; have := HN.out; omega)
    obtain ⟨acc, ha, _⟩ := II.out.z
    rw [List.map_congr_left (g := id) (fun x hx => hm x hx), List.map_id] at ha
    have hg := textGo_run l0_0 l0_1 a0_2 l0_3 [] _ _ _ ha
    rw [List.append_nil, HR.out] at hg
    cases hg
    clear ha hm
    have d6 := (sblk_cell II.out.c6 0).trans rfl
    have d7 := (sblk_cell II.out.c7 0).trans rfl
    have d7' := (sblk_cell II.out.c7 1).trans rfl
    have d8 := (sblk_cell II.out.c8 0).trans rfl
    have f6 := sblk_free II.out.c6 0
    have f7 := sblk_free II.out.c7 0
    have f7' := sblk_free II.out.c7 1
    have f8 := sblk_free II.out.c8 0
    have TT := Lib.hid (TxtR.put II.out.s.bel II.out.c6 II.out.c7 II.out.c8 ⟨#[]⟩ 0 0 36)
    gi_wp2
    have R2 := Lib.hid TT.out.1
    have K2 := Lib.hid ((TT.out.2 D (by have := DZ.out; omega) (by have := DZ.out; omega) (by have := DZ.out; omega)).trans KD.out)
    clear TT d6 d7 d7' d8 f6 f7 f7' f8
    generalize ((((W.setCell ⟨w.heap.size + 1, 0, none⟩ (.string ⟨#[]⟩)).setCell ⟨w.heap.size + 1 + 1, 0, none⟩ (.int .i64 0)).setCell ⟨w.heap.size + 1 + 1, 1, none⟩ (.int .u64 0)).setCell ⟨w.heap.size + 1 + 1 + 1, 0, none⟩ (.int .i64 36)) = W2 at R2 K2 ⊢
    refine ⟨by simp, .inl ⟨_, _, rfl, run_takeDeferred K2.out, ?_⟩⟩
    have u6 := (World.putObj_heap_other (o := .deferred none) (w := W2) (show w.heap.size + 1 ≠ D by have := DZ.out; omega)).trans R2.out.c6
    have u7 := (World.putObj_heap_other (o := .deferred none) (w := W2) (show w.heap.size + 1 + 1 ≠ D by have := DZ.out; omega)).trans R2.out.c7
    have u8 := (World.putObj_heap_other (o := .deferred none) (w := W2) (show w.heap.size + 1 + 1 + 1 ≠ D by have := DZ.out; omega)).trans R2.out.c8
    have e6 := (sblk_cell u6 0).trans rfl
    have e7 := (sblk_cell u7 0).trans rfl
    have e7' := (sblk_cell u7 1).trans rfl
    have e8 := (sblk_cell u8 0).trans rfl
    exact ⟨_, by simp [results, Try.results27, go_sem, e6, e7, e7', e8], rfl, R2.out.bel.trans (belowK_b (n₀ := w.heap.size) (w := w) (Nat.le_refl _) W2 D _ _ DD.out K2.out rfl rfl)⟩
  case stop =>
    rintro D c pre W2 hD hpre ⟨rfl, pre', x, acc, rfl, ha, hx, hR2⟩ hK
    have DD := Lib.hid (Nat.le_trans S3.out hD)
    have DZ := Lib.hid (Nat.le_trans Z1.out hD)
    have hm := spanL_mod (a := a1) (n := (N : Int)) NA.out.1 (by have := NA.out; have := HN.out; omega)
    rw [List.map_congr_left (g := id) (fun y hy => hm y (hpre.subset (List.mem_append_left _ hy))), List.map_id] at ha
    have hx1 := hm x (hpre.subset (by simp))
    rw [hx1] at hx hR2
    obtain ⟨rest, hrest⟩ := hpre
    have hg : textGo l0_0 l0_1 a0_2 l0_3 (spanL a1 (N : Int)) [] = textGo l0_0 l0_1 a0_2 l0_3 [x] acc := by
      rw [← hrest, List.append_assoc, textGo_run _ _ _ _ _ _ _ _ ha]
      show textGo l0_0 l0_1 a0_2 l0_3 (x :: rest) acc = _
      unfold textGo
      rcases hx with h | h
      · rw [if_pos h, if_pos h]
      · rw [if_pos h, if_pos h]
    rw [HR.out] at hg
    have R2 := Lib.hid (show TxtR w (r1, r2, r3, r4) W2 from hg ▸ hR2)
    have K2 := Lib.hid hK
    clear hD hm ha hx1 hx hR2 hrest hg hK L3 L6 L7 L8 HI1
    gi_wp2
    refine ⟨by simp, .inl ⟨_, _, rfl, run_takeDeferred K2.out, ?_⟩⟩
    have u6 := (World.putObj_heap_other (o := .deferred none) (w := W2) (show w.heap.size + 1 ≠ D by have := DZ.out; omega)).trans R2.out.c6
    have u7 := (World.putObj_heap_other (o := .deferred none) (w := W2) (show w.heap.size + 1 + 1 ≠ D by have := DZ.out; omega)).trans R2.out.c7
    have u8 := (World.putObj_heap_other (o := .deferred none) (w := W2) (show w.heap.size + 1 + 1 + 1 ≠ D by have := DZ.out; omega)).trans R2.out.c8
    have e6 := (sblk_cell u6 0).trans rfl
    have e7 := (sblk_cell u7 0).trans rfl
    have e7' := (sblk_cell u7 1).trans rfl
    have e8 := (sblk_cell u8 0).trans rfl
    exact ⟨_, by simp [results, Try.results27, go_sem, e6, e7, e7', e8], rfl, R2.out.bel.trans (belowK_b (n₀ := w.heap.size) (w := w) (Nat.le_refl _) W2 D _ _ DD.out K2.out rfl rfl)⟩
end Go.Proofs.Ytgkjdpdmmlalcaa.F
end
