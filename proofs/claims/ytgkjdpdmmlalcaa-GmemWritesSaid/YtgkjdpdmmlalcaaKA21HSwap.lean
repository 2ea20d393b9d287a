import Derived.Test.YtgkjdpdmmlalcaaKZF0
import Derived.Test.YtgkjdpdmmlalcaaKA20
section
namespace Go.Proofs.Ytgkjdpdmmlalcaa.F
open Go.RowKit Go.Shelf Go.Proofs.YtgkjdpdmmlalcaaW.PrintWords
attribute [local go_sem] Oper.semAt_some
def bys (s : ByteArray) (back : Bool) : List UInt8 := if back then s.data.toList.reverse else s.data.toList
def KpB (B1 B2 : Nat) (W W' : World) : Prop := W'.heap[B1]? = W.heap[B1]? ∧ W'.heap[B2]? = W.heap[B2]?

theorem cell_new1 (W : World) (v : Value) (t : TypeId) : (W.alloc (.cells #[v] t)).cell? ⟨W.heap.size, 0, none⟩ = some v ∧ (W.alloc (.cells #[v] t)).frozen? ⟨W.heap.size, 0, none⟩ = false :=
  ⟨by rw [World.cell?_alloc_mark]; rfl, by have h := World.alloc_heap_new W (.cells #[v] t); unfold World.frozen?; rw [h]; rfl⟩
theorem cell_alloc1 {W : World} {a : Addr} {v : Value} (o : Obj) (h : W.cell? a = some v) : (W.alloc o).cell? a = some v := cell_kept h (World.grownBy_alloc W o none) (fun r e => by cases e)
theorem frozen_alloc1 {W : World} {a : Addr} {v : Value} (o : Obj) (h : W.cell? a = some v) (hf : W.frozen? a = false) : (W.alloc o).frozen? a = false := (frozen_kept h (World.grownBy_alloc W o none) (fun r e => by cases e)).trans hf
theorem bys_length (s : ByteArray) (b : Bool) : (bys s b).length = s.size := by
  unfold bys
  cases b <;> simp
theorem bys_false (s : ByteArray) (k : Nat) (h : k < s.size) : (bys s false).take (k + 1) = (bys s false).take k ++ [s[k]] := by
  rw [List.take_succ_eq_append_getElem (by rw [bys_length]; exact h)]
  congr 2
theorem bys_true (s : ByteArray) (k j : Nat) (h : j < s.size) (e : j = s.size - 1 - k) (hk : k < s.size) : (bys s true).take (k + 1) = (bys s true).take k ++ [s[j]] := by
  subst e
  rw [List.take_succ_eq_append_getElem (by rw [bys_length]; exact hk)]
  congr 2
  simp [bys]
  rfl
theorem kpB_cell {B1 B2 : Nat} {W W' : World} (h : KpB B1 B2 W W') {v : Value} : (W.cell? ⟨B1, 0, none⟩ = some v → W'.cell? ⟨B1, 0, none⟩ = some v) ∧ (W.cell? ⟨B2, 0, none⟩ = some v → W'.cell? ⟨B2, 0, none⟩ = some v) := by
  obtain ⟨h1, h2⟩ := h
  unfold World.cell?
  simp only [h1, h2]
  exact ⟨id, id⟩

set_option maxHeartbeats 2000000 in
theorem bytes1_false (l B1 B2 : Nat) (s : ByteArray) (J Jx : List UInt8 → World → Prop) (n : Nat) (hs : s.size ≤ 9223372036854775807)
    (hY : ∀ pre x W, J pre W → pre.length < s.size → YieldAt Fence.wide (n - 1) Try.prog l #[.int .u8 (x.toNat : Int)] W fun e W' =>
      (e = .returned (.bool true) ∧ J (pre ++ [x]) W' ∧ KpB B1 B2 W W') ∨ (e = .returned (.bool false) ∧ Jx (pre ++ [x]) W'))
    (W : World) (h1 : W.cell? ⟨B1, 0, none⟩ = some (.string s)) (h2 : W.cell? ⟨B2, 0, none⟩ = some (.bool false)) (h0 : J [] W) :
    CallsIn Fence.wide n Try.prog 110 #[.func (.yield l) #[] #[], .pointer (some ⟨B1, 0, none⟩), .pointer (some ⟨B2, 0, none⟩)] W fun e W' => (∃ v, e = .returned v) ∧
      ((∃ ys, ys = bys s false ∧ J ys W') ∨ (∃ pre, pre <+: bys s false ∧ Jx pre W')) := by
  refine callsIn_of_wp Try.func110 rfl trivial ?_ rfl
  simp only [Try.ntmps110, List.size_toArray, List.length_cons, List.length_nil, Nat.reduceAdd, Nat.reduceSub, Array.replicate_succ, Array.replicate_zero, List.push_toArray, List.append_toArray, List.nil_append, List.cons_append]
  gi_wp2
  gi_loopw [7] (fun p wr => ∃ k : Nat, p = .int .i64 k ∧ k ≤ s.size ∧ J ((bys s false).take k) wr ∧ wr.cell? ⟨B1, 0, none⟩ = some (.string s) ∧ wr.cell? ⟨B2, 0, none⟩ = some (.bool false))
    (fun p wr => s.size - (intOf p).toNat)
  case atStart => exact ⟨0, rfl, Nat.zero_le _, by simpa using h0, h1, h2⟩
  case round =>
    obtain ⟨k, rfl, hk, hJ, g1, g2⟩ := hrel
    by_cases hlt : k < s.size
    · obtain ⟨fn, tmps, assign, body, hy, hR⟩ := hY _ s[k] wr hJ (by rw [List.length_take, bys_length]; omega)
      have HT := Lib.hid (bys_false s k hlt)
      clear hJ hY h1 h2 h0 W
      skip
      gi_wp2
      skip
      refine ⟨(fun h => by cases h), hR.mono ?_⟩
      rintro e W3 (⟨rfl, hJ3, hk3⟩ | ⟨rfl, hJx3⟩)
      · have g13 := (kpB_cell hk3).1 g1
        have g23 := (kpB_cell hk3).2 g2
        clear hk3 g1 g2
        gi_wp2
        go_roundw
        case rel => exact ⟨k + 1, by go_num, hlt, by rw [HT.out]; exact hJ3, g13, g23⟩
        case measure => simp [intOf]; omega
      · gi_wp2
        refine bodyPost_ret (results_none rfl _ _ _) rfl ?_
        exact ⟨⟨_, rfl⟩, .inr ⟨_, ⟨(bys s false).drop (k + 1), by rw [← HT.out, List.take_append_drop]⟩, hJx3⟩⟩
    have e : k = s.size := by omega
    subst e
    have hJ' : J (bys s false) wr := by rwa [List.take_of_length_le (by rw [bys_length]; exact Nat.le_refl _)] at hJ
    clear hJ
    gi_wp2
    go_end0
    exact ⟨⟨_, rfl⟩, .inl ⟨_, rfl, hJ'⟩⟩

set_option maxHeartbeats 2000000 in
theorem bytes1_true (l B1 B2 : Nat) (s : ByteArray) (J Jx : List UInt8 → World → Prop) (n : Nat) (hs : s.size ≤ 9223372036854775807)
    (hY : ∀ pre x W, J pre W → pre.length < s.size → YieldAt Fence.wide (n - 1) Try.prog l #[.int .u8 (x.toNat : Int)] W fun e W' =>
      (e = .returned (.bool true) ∧ J (pre ++ [x]) W' ∧ KpB B1 B2 W W') ∨ (e = .returned (.bool false) ∧ Jx (pre ++ [x]) W'))
    (W : World) (h1 : W.cell? ⟨B1, 0, none⟩ = some (.string s)) (h2 : W.cell? ⟨B2, 0, none⟩ = some (.bool true)) (h0 : J [] W) :
    CallsIn Fence.wide n Try.prog 110 #[.func (.yield l) #[] #[], .pointer (some ⟨B1, 0, none⟩), .pointer (some ⟨B2, 0, none⟩)] W fun e W' => (∃ v, e = .returned v) ∧
      ((∃ ys, ys = bys s true ∧ J ys W') ∨ (∃ pre, pre <+: bys s true ∧ Jx pre W')) := by
  refine callsIn_of_wp Try.func110 rfl trivial ?_ rfl
  simp only [Try.ntmps110, List.size_toArray, List.length_cons, List.length_nil, Nat.reduceAdd, Nat.reduceSub, Array.replicate_succ, Array.replicate_zero, List.push_toArray, List.append_toArray, List.nil_append, List.cons_append]
  gi_wp2
  gi_loopw [7] (fun p wr => ∃ k : Nat, p = .int .i64 k ∧ k ≤ s.size ∧ J ((bys s true).take k) wr ∧ wr.cell? ⟨B1, 0, none⟩ = some (.string s) ∧ wr.cell? ⟨B2, 0, none⟩ = some (.bool true))
    (fun p wr => s.size - (intOf p).toNat)
  case atStart => exact ⟨0, rfl, Nat.zero_le _, by simpa using h0, h1, h2⟩
  case round =>
    obtain ⟨k, rfl, hk, hJ, g1, g2⟩ := hrel
    by_cases hlt : k < s.size
    · obtain ⟨fn, tmps, assign, body, hy, hR⟩ := hY _ s[s.size - 1 - k] wr hJ (by rw [List.length_take, bys_length]; omega)
      have HT := Lib.hid (bys_true s k (s.size - 1 - k) (by omega) rfl hlt)
      clear hJ hY h1 h2 h0 W
      have hi : ((s.size : Int) - 1 - k).toNat = s.size - 1 - k := by omega
      gi_wp2
      skip
      refine ⟨(fun h => by cases h), hR.mono ?_⟩
      rintro e W3 (⟨rfl, hJ3, hk3⟩ | ⟨rfl, hJx3⟩)
      · have g13 := (kpB_cell hk3).1 g1
        have g23 := (kpB_cell hk3).2 g2
        clear hk3 g1 g2
        gi_wp2
        go_roundw
        case rel => exact ⟨k + 1, by go_num, hlt, by rw [HT.out]; exact hJ3, g13, g23⟩
        case measure => simp [intOf]; omega
      · gi_wp2
        refine bodyPost_ret (results_none rfl _ _ _) rfl ?_
        exact ⟨⟨_, rfl⟩, .inr ⟨_, ⟨(bys s true).drop (k + 1), by rw [← HT.out, List.take_append_drop]⟩, hJx3⟩⟩
    have e : k = s.size := by omega
    subst e
    have hJ' : J (bys s true) wr := by rwa [List.take_of_length_le (by rw [bys_length]; exact Nat.le_refl _)] at hJ
    clear hJ
    gi_wp2
    go_end0
    exact ⟨⟨_, rfl⟩, .inl ⟨_, rfl, hJ'⟩⟩

theorem bytes1_any (l B1 B2 : Nat) (s : ByteArray) (back : Bool) (J Jx : List UInt8 → World → Prop) (n : Nat) (hs : s.size ≤ 9223372036854775807)
    (hY : ∀ pre x W, J pre W → pre.length < s.size → YieldAt Fence.wide (n - 1) Try.prog l #[.int .u8 (x.toNat : Int)] W fun e W' =>
      (e = .returned (.bool true) ∧ J (pre ++ [x]) W' ∧ KpB B1 B2 W W') ∨ (e = .returned (.bool false) ∧ Jx (pre ++ [x]) W'))
    (W : World) (h1 : W.cell? ⟨B1, 0, none⟩ = some (.string s)) (h2 : W.cell? ⟨B2, 0, none⟩ = some (.bool back)) (h0 : J [] W) :
    CallsIn Fence.wide n Try.prog 110 #[.func (.yield l) #[] #[], .pointer (some ⟨B1, 0, none⟩), .pointer (some ⟨B2, 0, none⟩)] W fun e W' => (∃ v, e = .returned v) ∧
      ((∃ ys, ys = bys s back ∧ J ys W') ∨ (∃ pre, pre <+: bys s back ∧ Jx pre W')) := by
  cases back
  · exact bytes1_false l B1 B2 s J Jx n hs hY W h1 h2 h0
  · exact bytes1_true l B1 B2 s J Jx n hs hY W h1 h2 h0
theorem bytes_stops (n B1 B2 : Nat) (s : ByteArray) (back : Bool) (w : World) (hs : s.size ≤ 9223372036854775807) (l1 : B1 < w.heap.size) (l2 : B2 < w.heap.size)
    (h1 : w.cell? ⟨B1, 0, none⟩ = some (.string s)) (h2 : w.cell? ⟨B2, 0, none⟩ = some (.bool back)) :
    SeqStopsK Fence.wide n Try.prog 110 #[.pointer (some ⟨B1, 0, none⟩), .pointer (some ⟨B2, 0, none⟩)] (fun x : UInt8 => #[.int .u8 (x.toNat : Int)]) (KpB B1 B2) (fun xs => xs = bys s back) (fun pre => pre <+: bys s back) s.size w :=
  fun l J Jx W hW _ _ hY h0 => bytes1_any l B1 B2 s back J Jx n hs hY W ((hW.cell (p := ⟨B1, 0, none⟩) l1).trans h1) ((hW.cell (p := ⟨B2, 0, none⟩) l2).trans h2) h0
theorem kpB_t {B1 B2 : Nat} {A B C : World} (h : KpB B1 B2 A B) (k : KpB B1 B2 B C) : KpB B1 B2 A C := ⟨k.1.trans h.1, k.2.trans h.2⟩
theorem kpB_b {B1 B2 : Nat} {w : World} (l1 : B1 < w.heap.size) (l2 : B2 < w.heap.size) (W : World) (l : Nat) (o o' : Obj) (hl : w.heap.size ≤ l) (_ : W.heap[l]? = some o) (_ : o.isCells = false) (_ : o.isWalk = false) : KpB B1 B2 W (W.putObj l o') :=
  ⟨World.putObj_heap_other (by omega), World.putObj_heap_other (by omega)⟩
theorem bytes_mk (s : ByteArray) (back : Bool) (w : World) :
    Calls Try.prog 83 #[.string s, .bool back] w fun e w' => e = .returned (.func (.func 110) #[] #[.pointer (some ⟨w.heap.size, 0, none⟩), .pointer (some ⟨w.heap.size + 1, 0, none⟩)]) ∧
      w' = (w.alloc (.cells #[.string s] 9)).alloc (.cells #[.bool back] 4) := by
  go_enter Try.func83, Try.ntmps83
  go_wp2
  go_ret
  exact ⟨rfl, rfl⟩

def beOf (l : List UInt8) : Int := l.foldl (fun n b => n * 256 + (b.toNat : Int)) 0
theorem beOf_snoc (l : List UInt8) (x : UInt8) : beOf (l ++ [x]) = beOf l * 256 + (x.toNat : Int) := by simp [beOf]
theorem beOf_aux : ∀ (l : List UInt8) (acc : Int) (n : Nat), 0 ≤ acc → acc < 256 ^ n → 0 ≤ l.foldl (fun n b => n * 256 + (b.toNat : Int)) acc ∧ l.foldl (fun n b => n * 256 + (b.toNat : Int)) acc < 256 ^ (n + l.length)
  | [], acc, n, h0, h1 => ⟨h0, by simpa using h1⟩
  | x :: l, acc, n, h0, h1 => by
    have h2 := x.toNat_lt
    have := beOf_aux l (acc * 256 + (x.toNat : Int)) (n + 1) (by omega) (by rw [Int.pow_succ]; omega)
    rw [List.length_cons, ← Nat.add_assoc, Nat.add_right_comm]
    exact this
theorem beOf_bound (l : List UInt8) : 0 ≤ beOf l ∧ beOf l < 256 ^ l.length := by
  have := beOf_aux l 0 0 (by omega) (by omega)
  simpa [beOf] using this
theorem wraps_u64 (n : Int) (h₀ : 0 ≤ n) (h₁ : n < 2 ^ 64) : IntKind.u64.wrap n = n := by
  simp [IntKind.wrap, IntKind.bits, IntKind.signed]
  omega
theorem or_byte (n b : Int) (h0 : 0 ≤ n) (h1 : n < 2 ^ 56) (h2 : 0 ≤ b) (h3 : b < 256) : Go.bits .or .u64 (n * 256) b = n * 256 + b :=
  bits_join .u64 64 (by decide) wraps_u64 8 (n * 256) b (by omega) (by omega) (by omega) h2 (by omega) (by omega)

-- HAND fn=ferry/swap.number ; rounds=0 ; making=1
def swap_number.f (a0 : ByteArray) (a1 : Bool) : Option Int := if (a0.size : Int) > 8 then some 0 else some (beOf (bys a0 a1))
set_option maxHeartbeats 4000000 in
set_option maxRecDepth 100000 in
theorem swap_number.calls (a0 : ByteArray) (a1 : Bool) (r : Int) (w : World) (h : swap_number.f a0 a1 = some r) :
    Calls Try.prog 80 #[.string a0, .bool a1] w fun e w' => e = .returned (.int .u64 r) ∧ Below w.heap.size w w' := by
  unfold swap_number.f at h
  by_cases hsz : (a0.size : Int) > 8
  · rw [if_pos hsz] at h
    obtain rfl := Option.some.inj h
    have hb : decide (8 < (a0.size : Int)) = true := decide_eq_true hsz
    go_enter Try.func80, Try.ntmps80
    go_wp2
    go_ret
    exact ⟨rfl, Below.refl _ _⟩
  rw [if_neg hsz] at h
  obtain rfl := Option.some.inj h
  have hb : decide (8 < (a0.size : Int)) = false := decide_eq_false hsz
  have hb' : ¬ 8 < a0.size := by omega
  refine (callsIn_wide (n := 6)).1 ?_
  refine callsIn_of_wp_marks Try.func80 rfl trivial ?_ rfl
  simp only [Try.ntmps80, List.size_toArray, List.length_cons, List.length_nil, Nat.reduceAdd, Nat.reduceSub, Array.replicate_succ, Array.replicate_zero, List.push_toArray, List.append_toArray, List.nil_append, List.cons_append]
  gi_wp2_with (refine ⟨trivial, ?_⟩; gi_at_call 83; refine (callsIn_wide.2 (bytes_mk _ _ _)).mono ?_; rintro e w' ⟨rfl, rfl⟩)
  have c0 := cell_new1 w (.int .u64 0) 26
  have c1 := cell_new1 (w.alloc (.cells #[.int .u64 0] 26)) (.string a0) 9
  have c2 := cell_new1 ((w.alloc (.cells #[.int .u64 0] 26)).alloc (.cells #[.string a0] 9)) (.bool a1) 4
  rw [World.size_alloc] at c1
  rw [World.size_alloc, World.size_alloc] at c2
  have hB0 : Below w.heap.size w (((w.alloc (.cells #[.int .u64 0] 26)).alloc (.cells #[.string a0] 9)).alloc (.cells #[.bool a1] 4)) := (((Below.refl _ w).alloc (Nat.le_refl _) _).alloc (by simp) _).alloc (by simp; omega) _
  refine wpIn_rangeFunc_ownG rfl (by omega) (gf := 110) (lb := #[.pointer (some ⟨w.heap.size + 1, 0, none⟩), .pointer (some ⟨w.heap.size + 1 + 1, 0, none⟩)]) rfl trivial (enters_of Try.func110 (by kernel_rfl) rfl)
    (bytes_stops (6 - 1) (w.heap.size + 1) (w.heap.size + 1 + 1) a0 a1 _ (by omega) (by simp) (by simp) (cell_alloc1 _ c1.1) c2.1) kpB_t (kpB_b (by simp) (by simp)) (Below.refl _ _) (fun _ => rfl)
    (fun pre W => (W.cell? ⟨w.heap.size, 0, none⟩ = some (.int .u64 (beOf pre)) ∧ W.frozen? ⟨w.heap.size, 0, none⟩ = false) ∧ Below w.heap.size w W)
    (fun _ _ _ => False)
    (OwnFrom.and (Own.from (fun s A B row hs hg hr => ⟨cell_kept hs.1 hg hr, (frozen_kept hs.1 hg hr).trans hs.2⟩) _) (ownFrom_below (Nat.le_refl _) (by simp; omega)))
    (fun _ _ _ _ _ hs _ _ => hs)
    ⟨⟨cell_alloc1 _ (cell_alloc1 _ c0.1), frozen_alloc1 _ (cell_alloc1 _ c0.1) (frozen_alloc1 _ c0.1 c0.2)⟩, hB0⟩
    (fun x => { tmps := #[.string a0, .bool a1, undef, undef, .int .u64 0, .pointer (some ⟨w.heap.size, 0, none⟩), .int .u8 (x.toNat : Int), .string a0, .int .i64 a0.size, .bool false, .string a0, .bool a1, .func (.func 110) #[] #[.pointer (some ⟨w.heap.size + 1, 0, none⟩), .pointer (some ⟨w.heap.size + 1 + 1, 0, none⟩)], .int .u8 (x.toNat : Int), undef, undef, undef, undef, undef, undef], defers := [] }) ?assign ?body ?done ?stop
  case assign =>
    intro l x W K hK
    gi_wp2
    exact hK
  case body =>
    rintro l pre x W ⟨⟨hc, hf⟩, hB⟩ hlen
    have hbb := beOf_bound pre
    have hp : (256 : Int) ^ pre.length ≤ 256 ^ 7 := by
      have z : 256 ^ pre.length ≤ 256 ^ 7 := Nat.pow_le_pow_right (by omega) (by omega)
      exact_mod_cast z
    have hx := x.toNat_lt
    have e1 : IntKind.u64.wrap (beOf pre * 256) = beOf pre * 256 := wraps_u64 _ (by omega) (by omega)
    have e2 : IntKind.u64.wrap (x.toNat : Int) = (x.toNat : Int) := wraps_u64 _ (by omega) (by omega)
    have e3 : bits .or .u64 (beOf pre * 256) (x.toNat : Int) = beOf (pre ++ [x]) := by rw [beOf_snoc]; exact or_byte _ _ (by omega) (by omega) (by omega) (by omega)
    clear hp hbb hx
    gi_wp2
    exact ⟨(KeepsOthers.setCell _ _ _).from _, ⟨Below.heap_setCell W ⟨w.heap.size, 0, none⟩ _ _ (by show w.heap.size + 1 ≠ w.heap.size; omega), Below.heap_setCell W ⟨w.heap.size, 0, none⟩ _ _ (by show w.heap.size + 1 + 1 ≠ w.heap.size; omega)⟩,
      ⟨World.cell?_setCell_same' _ _ _ (by rw [hc]; rfl), by rw [World.frozen?_setCell]; exact hf⟩, hB.setCell (p := ⟨w.heap.size, 0, none⟩) (Nat.le_refl _) _⟩
  case done =>
    rintro D ys W hD rfl ⟨⟨hc, _⟩, hB⟩ hK
    gi_wp2
    refine ⟨by simp, .inl ⟨_, _, rfl, run_takeDeferred hK, ?_⟩⟩
    exact ⟨_, results_tmp rfl _ _ _, rfl, hB.trans (belowK_b (w := w) (Nat.le_refl _) W D _ _ (by simp at hD; omega) hK rfl rfl)⟩
  case stop =>
    rintro D c pre W _ _ h _
    exact h.elim

def leBytes (v : Int) (n : Nat) : List UInt8 := (List.range n).map (fun i => UInt8.ofNat (v / 256 ^ i % 256).toNat)
theorem leBytes_length (v : Int) (n : Nat) : (leBytes v n).length = n := by simp [leBytes]
theorem leBytes_succ (v : Int) (n : Nat) : leBytes v (n + 1) = leBytes v n ++ [UInt8.ofNat (v / 256 ^ n % 256).toNat] := by simp [leBytes, List.range_succ]
theorem byte_toNat (x : Int) : ((UInt8.ofNat (x % 256).toNat).toNat : Int) = x % 256 := by
  have h : (x % 256).toNat < 256 := by omega
  rw [UInt8.toNat_ofNat']
  omega

theorem leCells_succ (v : Int) (n : Nat) : Lib.byteCells (leBytes v (n + 1)) = Lib.byteCells (leBytes v n) ++ [.int .u8 (v / 256 ^ n % 256)] := by
  rw [leBytes_succ, Lib.byteCells_append]
  congr 1
  show [Value.int .u8 _] = _
  rw [byte_toNat]
theorem div256 (v : Int) (k : Nat) : v / 256 ^ k / 256 = v / 256 ^ (k + 1) := by
  rw [Int.pow_succ]
  exact Int.ediv_ediv_of_nonneg (Int.pow_nonneg (by decide))
-- HAND fn=ferry/swap.PutLe ; rounds=0 ; making=1
def swap_PutLe.f (a0 : Int) (a1 : Int) : Option ByteArray := if a1 < 0 then some ⟨#[]⟩ else if a1 > 8 then some ⟨#[]⟩ else some ⟨(leBytes a0 a1.toNat).toArray⟩
set_option maxHeartbeats 4000000 in
set_option maxRecDepth 100000 in
theorem swap_PutLe.calls (a0 : Int) (a1 : Int) (r : ByteArray) (w : World) (h : swap_PutLe.f a0 a1 = some r) :
    Calls Try.prog 79 #[.int .u64 a0, .int .i64 a1] w fun e w' => e = .returned (.string r) ∧ Below w.heap.size w w' := by
  unfold swap_PutLe.f at h
  by_cases h1 : a1 < 0
  · rw [if_pos h1] at h
    obtain rfl := Option.some.inj h
    have hb : decide (a1 < 0) = true := decide_eq_true h1
    go_enter Try.func79, Try.ntmps79
    go_wp2
    go_ret
    exact ⟨rfl, Below.refl _ _⟩
  rw [if_neg h1] at h
  have hb : decide (a1 < 0) = false := decide_eq_false h1
  by_cases h2 : a1 > 8
  · rw [if_pos h2] at h
    obtain rfl := Option.some.inj h
    have hb2 : decide (8 < a1) = true := decide_eq_true h2
    go_enter Try.func79, Try.ntmps79
    go_wp2
    go_ret
    exact ⟨rfl, Below.refl _ _⟩
  rw [if_neg h2] at h
  have hb2 : decide (8 < a1) = false := decide_eq_false h2
  obtain rfl := Option.some.inj h
  obtain ⟨n, rfl⟩ : ∃ n : Nat, a1 = n := ⟨a1.toNat, by omega⟩
  have hn : n ≤ 8 := by omega
  rw [Int.toNat_natCast]
  clear h1 h2
  go_enter Try.func79, Try.ntmps79
  go_wp2
  go_loopw [0, 13] (fun v t wr => ∃ k : Nat, k ≤ n ∧ t = .int .i64 k ∧ v = .int .u64 (a0 / 256 ^ k) ∧ Lib.IsBuilderF 95 5 w.heap.size w.heap.size (Lib.byteCells (leBytes a0 k)) wr ∧ Below w.heap.size w wr) (fun _ t _ => n - (intOf t).toNat)
  case atStart => exact ⟨0, Nat.zero_le _, rfl, by simp, Lib.IsBuilderF.of (Lib.fresh_isBuilder _ _ w), (Below.refl _ w).alloc (Nat.le_refl _) _⟩
  case round =>
    obtain ⟨k, hk, rfl, rfl, hI, hB⟩ := hrel
    have hsz := hB.size
    by_cases hlt : k < n
    · have HS := Lib.hid (leCells_succ a0 k)
      go_wp2_with (go_at_call 84; refine (Try.Builder_WriteByte_k w.heap.size w.heap.size _ _ _ hI (by rw [Lib.byteCells_length, leBytes_length]; omega) hsz).mono ?_)
      rintro e W1 ⟨rfl, hb1, hbl, _⟩
      go_wp2
      go_roundw
      case rel => exact ⟨k + 1, hlt, by go_num, by rw [div256], by rw [HS.out]; exact .inr hb1, hB.trans hbl⟩
      case measure => simp [intOf]; omega
    have e : k = n := by omega
    subst e
    go_wp2_with (go_at_call 58; refine (Try.Builder_String_any_k w.heap.size w.heap.size _ _ hI hsz).mono ?_; rintro e W1 ⟨rfl, _, hbl, _⟩)
    go_ret
    exact ⟨rfl, hB.trans hbl⟩

theorem builder_move {T e : TypeId} {B b : Nat} {bs : List Value} {w w' : World} (h : Lib.IsBuilderF T e B b bs w) (hk : ∀ (k : Nat) (c : Array Value) (t : TypeId) (f : Nat × Nat), w.heap[k]? = some (.cells c t f) → w'.heap[k]? = some (.cells c t f)) : Lib.IsBuilderF T e B b bs w' := by
  have hstep : ∀ p, Lib.BuilderAtF T e B b p bs w → Lib.BuilderAtF T e B b p bs w' := by
    rintro p ⟨hB, v, hb, ⟨hl, hown⟩, hne⟩
    refine ⟨hB, v, hk _ _ _ _ hb, ⟨hl, ?_⟩, hne⟩
    rcases hown with h0 | ⟨g, cap, cur, fz, hv, hg, hh, r⟩
    · exact .inl h0
    · exact .inr ⟨g, cap, cur, fz, hv, hg, hk _ _ _ _ hh, r⟩
  exact h.imp (hstep _) (hstep _)
theorem cells_kept {W W' : World} {row : Option Nat} (hg : W.grownBy W' row) (hr : ∀ r, row = some r → ∃ o : Obj, W.heap[r]? = some o ∧ o.isCells = false) {k : Nat} {c : Array Value} {t : TypeId} {f : Nat × Nat} (h : W.heap[k]? = some (.cells c t f)) : W'.heap[k]? = some (.cells c t f) := by
  have hlt : k < W.heap.size := (Array.getElem?_eq_some_iff.1 h).1
  refine (hg.block k hlt (fun e => ?_)).trans h
  obtain ⟨o, ho, hc⟩ := hr k e.symm
  rw [h] at ho
  cases ho
  cases hc
theorem others_cells {e : TypeId} {b : Option Nat} {w w' : World} (h : Lib.OthersKept e b w w') {k : Nat} {c : Array Value} {t : TypeId} {f : Nat × Nat} (hk : w.heap[k]? = some (.cells c t f)) (hb : some k ≠ b) (ht : t ≠ e) : w'.heap[k]? = some (.cells c t f) :=
  h k _ hk hb (fun _ _ e1 => by cases e1; exact ht rfl)
theorem others_keeps {T e : TypeId} {B b : Nat} {bs : List Value} {w w' : World} (h : Lib.OthersKept e (some b) w w') (hI : Lib.IsBuilderF T e B b bs w) (hs : w.heap.size ≤ w'.heap.size) : KeepsOthers w w' :=
  ⟨hs, fun k o hk ho => h k o hk (fun e1 => by
    cases e1
    have : ∃ c t f, w.heap[b]? = some (.cells c t f) := by
      rcases hI with ⟨_, _, hb, _⟩ | ⟨_, _, hb, _⟩ <;> exact ⟨_, _, _, hb⟩
    obtain ⟨c, t, f, hb⟩ := this
    rw [hb] at hk
    cases hk
    cases ho) (fun c f e1 => by cases e1; cases ho)⟩
theorem isBuilder_below {T e : TypeId} {B b : Nat} {bs : List Value} {w w' : World} (h : Lib.IsBuilder T e B b bs w) (hb : Below w.heap.size w w') : Lib.IsBuilder T e B b bs w' := by
  have hstep : ∀ p, Lib.BuilderAt T e B b p bs w → Lib.BuilderAt T e B b p bs w' := by
    rintro p ⟨hB, v, hk, hown, hne⟩
    have hlt : b < w.heap.size := by
      rcases Nat.lt_or_ge b w.heap.size with h' | h'
      · exact h'
      · rw [Array.getElem?_eq_none h'] at hk
        cases hk
    exact ⟨hB, v, (hb.block b hlt).trans hk, own_move hown (fun k hk => hb.block k (own_lt hown k hk)), hne⟩
  exact h.imp (hstep _) (hstep _)
-- HAND fn=ferry/swap.PutBe ; rounds=0 ; making=1
def swap_PutBe.f (a0 : Int) (a1 : Int) : Option ByteArray := (swap_PutLe.f a0 a1).bind fun s => some ⟨(bys s true).toArray⟩
theorem putLe_some (a0 a1 : Int) : ∃ s, swap_PutLe.f a0 a1 = some s ∧ s.size ≤ 8 := by
  unfold swap_PutLe.f
  by_cases h1 : a1 < 0
  · rw [if_pos h1]
    exact ⟨_, rfl, by decide⟩
  rw [if_neg h1]
  by_cases h2 : a1 > 8
  · rw [if_pos h2]
    exact ⟨_, rfl, by decide⟩
  rw [if_neg h2]
  refine ⟨_, rfl, ?_⟩
  show (leBytes a0 a1.toNat).toArray.size ≤ 8
  rw [List.size_toArray, leBytes_length]
  omega
set_option maxHeartbeats 4000000 in
set_option maxRecDepth 100000 in
theorem swap_PutBe.calls (a0 : Int) (a1 : Int) (r : ByteArray) (w : World) (h : swap_PutBe.f a0 a1 = some r) :
    Calls Try.prog 51 #[.int .u64 a0, .int .i64 a1] w fun e w' => e = .returned (.string r) ∧ Below w.heap.size w w' := by
  unfold swap_PutBe.f at h
  obtain ⟨s, hs, hs8⟩ := putLe_some a0 a1
  rw [hs] at h
  obtain rfl := Option.some.inj h
  refine (callsIn_wide (n := 6)).1 ?_
  refine callsIn_of_wp_marks Try.func51 rfl trivial ?_ rfl
  simp only [Try.ntmps51, List.size_toArray, List.length_cons, List.length_nil, Nat.reduceAdd, Nat.reduceSub, Array.replicate_succ, Array.replicate_zero, List.push_toArray, List.append_toArray, List.nil_append, List.cons_append]
  gi_wp2_with (first | (refine ⟨trivial, ?_⟩; gi_at_call 79; refine (callsIn_wide.2 (swap_PutLe.calls a0 a1 s _ hs)).mono ?_; rintro e W1 ⟨rfl, hb1⟩) | (refine ⟨trivial, ?_⟩; gi_at_call 83; refine (callsIn_wide.2 (bytes_mk _ _ _)).mono ?_; rintro e w' ⟨rfl, rfl⟩))
  obtain ⟨W0, hW0⟩ : ∃ W0, W1 = W0 := ⟨_, rfl⟩
  subst hW0
  have hbs := hb1.size
  rw [World.size_alloc] at hbs
  have c1 := cell_new1 W1 (.string s) 9
  have c2 := cell_new1 (W1.alloc (.cells #[.string s] 9)) (.bool true) 4
  rw [World.size_alloc] at c2
  have hI0 : Lib.IsBuilderF 95 5 w.heap.size w.heap.size (Lib.byteCells []) W1 := by
    have hF := Lib.fresh_isBuilder 95 5 w
    refine (Lib.IsBuilderF.of ?_)
    exact isBuilder_below hF hb1
  have d1 : (W1.alloc (.cells #[.string s] 9)).heap[W1.heap.size]? = some (.cells #[.string s] 9 (0, 0)) := World.alloc_heap_new W1 _
  have d1' : ((W1.alloc (.cells #[.string s] 9)).alloc (.cells #[.bool true] 4)).heap[W1.heap.size]? = some (.cells #[.string s] 9 (0, 0)) := (Below.heap_alloc _ _ _ (by simp)).trans d1
  have d2 : ((W1.alloc (.cells #[.string s] 9)).alloc (.cells #[.bool true] 4)).heap[W1.heap.size + 1]? = some (.cells #[.bool true] 4 (0, 0)) := by
    have := World.alloc_heap_new (W1.alloc (.cells #[.string s] 9)) (.cells #[.bool true] 4)
    rwa [World.size_alloc] at this
  have hbW : Below w.heap.size w ((W1.alloc (.cells #[.string s] 9)).alloc (.cells #[.bool true] 4)) := (((((Below.refl _ w).alloc (Nat.le_refl _) _).trans (hb1.mono (by simp))).alloc (by omega) _).alloc (by simp; omega) _)
  refine wpIn_rangeFunc_ownG rfl (by omega) (gf := 110) (lb := #[.pointer (some ⟨W1.heap.size, 0, none⟩), .pointer (some ⟨W1.heap.size + 1, 0, none⟩)]) rfl trivial (enters_of Try.func110 (by kernel_rfl) rfl)
    (bytes_stops (6 - 1) W1.heap.size (W1.heap.size + 1) s true _ (by omega) (by rw [World.size_alloc, World.size_alloc]; omega) (by rw [World.size_alloc, World.size_alloc]; omega) (cell_alloc1 _ c1.1) c2.1) kpB_t (kpB_b (by rw [World.size_alloc, World.size_alloc]; omega) (by rw [World.size_alloc, World.size_alloc]; omega)) (Below.refl _ _) (fun _ => rfl)
    (fun pre W => (Lib.IsBuilderF 95 5 w.heap.size w.heap.size (Lib.byteCells pre) W ∧ W.heap[W1.heap.size]? = some (.cells #[.string s] 9 (0, 0)) ∧ W.heap[W1.heap.size + 1]? = some (.cells #[.bool true] 4 (0, 0))) ∧ Below w.heap.size w W)
    (fun _ _ _ => False)
    (OwnFrom.and (Own.from (fun s A B row hs hg hr => ⟨builder_move hs.1 (fun k c t f h => cells_kept hg hr h), cells_kept hg hr hs.2.1, cells_kept hg hr hs.2.2⟩) _) (ownFrom_below (Nat.le_refl _) (by simp; omega)))
    (fun _ _ _ _ _ hs _ _ => hs)
    ⟨⟨(hI0.alloc _).alloc _, d1', d2⟩, hbW⟩
    (fun x => { tmps := #[.int .u64 a0, .int .i64 a1, undef, undef, .string ⟨#[]⟩, .pointer (some ⟨w.heap.size, 0, none⟩), .int .u8 (x.toNat : Int), .int .u64 a0, .int .i64 a1, .string s, .func (.func 110) #[] #[.pointer (some ⟨W1.heap.size, 0, none⟩), .pointer (some ⟨W1.heap.size + 1, 0, none⟩)], .int .u8 (x.toNat : Int), undef, undef, undef], defers := [] }) ?assign ?body ?done ?stop
  case assign =>
    intro l x W K hK
    gi_wp2
    exact hK
  case body =>
    rintro l pre x W ⟨⟨hI, e1, e2⟩, hB⟩ hlen
    have hsz := hB.size
    gi_wp2_with (refine ⟨trivial, ?_⟩; gi_at_call 84; refine (CallsIn.inRound l (callsIn_wide.2 (Try.Builder_WriteByte_k w.heap.size w.heap.size _ (x.toNat : Int) _ hI (by rw [Lib.byteCells_length]; omega) hsz))).mono ?_; rintro e W2 ⟨rfl, hb2, hbl, hok⟩)
    have g1 := others_cells hok e1 (by intro z; have := Option.some.inj z; omega) (by decide)
    have g2 := others_cells hok e2 (by intro z; have := Option.some.inj z; omega) (by decide)
    exact ⟨(others_keeps hok hI hbl.size).from _, ⟨g1.trans e1.symm, g2.trans e2.symm⟩, ⟨by rw [Lib.byteCells_append]; exact .inr hb2, g1, g2⟩, hB.trans hbl⟩
  case done =>
    rintro D ys W hD rfl ⟨⟨hI, _, _⟩, hB⟩ hK
    have hsz := hB.size
    gi_wp2_with (refine ⟨trivial, ?_⟩; gi_at_call 58; refine (callsIn_wide.2 (Try.Builder_String_any_k w.heap.size w.heap.size _ _ hI hsz)).mono ?_; rintro e W2 ⟨rfl, _, hbl, hok⟩)
    have hK2 : W2.heap[D]? = some (.deferred (some [])) := hok D _ hK (by intro z; have := Option.some.inj z; simp at hD; omega) (fun _ _ e1 => by cases e1)
    refine ⟨by simp, .inl ⟨_, _, rfl, run_takeDeferred hK2, ?_⟩⟩
    have hb3 : Below w.heap.size w W2 := hB.trans hbl
    exact ⟨_, results_tmp rfl _ _ _, rfl, hb3.trans (belowK_b (w := w) (Nat.le_refl _) W2 D _ _ (by simp at hD; omega) hK2 rfl rfl)⟩
  case stop =>
    rintro D c pre W _ _ h _
    exact h.elim
end Go.Proofs.Ytgkjdpdmmlalcaa.F
end
