import Derived.Below
import Derived.Deep.Draws
import Derived.Deep.AppendLies
import Derived.Maps.AppendAt
import Derived.OwnWalk
import Derived.Laws.BytesArg
import Derived.Laws.MakeOwn
import Derived.Laws.OwnMore
import Derived.Deep.OwnRows
import Derived.Tactics
import Derived.Lib.ConvBytes
import Derived.Laws.Slices
import Derived.WalkKit
import Derived.KernelRfl
import Derived.RowKit3
import Derived.Deep.LoopGhost
import Derived.Deep.QuietTactic
import Derived.BigQuiet
import Derived.WideLaws
import Derived.Deep.DeepCutAuto
import Derived.Deep.CutBlock
import Derived.Deep.RegionHeld3
import Derived.Laws.Rows
import Derived.Lib.AppendStr
import Derived.ArgAppend
import Derived.Laws.IdiomCopy
import Derived.RowKit
import Derived.OrdersHeld
import Derived.Laws.BitsLemmas
import Derived.Laws.StructEq
import Derived.OwnWalkIn
import Derived.ProofKit
import Derived.Lib.Hide
import Derived.Shelf.RegionOpen
import Derived.Shelf.Abstract
import Derived.Lib.SliceRun
import Derived.WalkSmall
import Derived.Laws.ResultCell
import Derived.Shelf.Spec.SlicesInsertGrow
import Derived.OpenShut
import Derived.Deep.Slices
import Derived.SizedLaws
import Derived.Test.YtlmmipdgedfboaaZF0
import Derived.Test.YtlmmipdgedfboaaYA0Sorted
import Derived.Test.YtlmmipdgedfboaaYA3HHost0
import Derived.Test.YtlmmipdgedfboaaYA8HHost4
import Derived.Test.YtlmmipdgedfboaaYA9
import Derived.Test.YtlmmipdgedfboaaYA10HHost11
import Derived.Test.YtlmmipdgedfboaaYA12FHostAsk
import Derived.Test.YtlmmipdgedfboaaYA13FHostWord
import Derived.Test.YtlmmipdgedfboaaYA14
import Derived.Test.YtlmmipdgedfboaaYC43FFerryref03Word
import Derived.Test.YtlmmipdgedfboaaYC44FFerryref03Fault
import Derived.Test.YtlmmipdgedfboaaYC45FFerryref03Ask
section
namespace Go.Proofs.Ytlmmipdgedfboaa.F
open Go.RowKit Go.Proofs.YtlmmipdgedfboaaW.PrintWords Go.Proofs.YtlmmipdgedfboaaW.PrintLast Go.Proofs.YtlmmipdgedfboaaW.PrintMore
attribute [local go_sem] max2_int min2_int max_two min_two max_three min_three max_four min_four
set_option linter.unusedVariables false
set_option linter.unusedSimpArgs false

def ferryref03_Peek.f (k : Nat) (l0_0 : List (S53)) (l0_1 : List (S55)) (a1 : Int) : Option (Int) := (ferryref03_word.f k l0_0 l0_1 (IntKind.u64.wrap (a1 - (Int.tmod a1 8)))).bind fun t260 => (if 0 ≤ (IntKind.u64.wrap (8 * (Int.tmod a1 8))) then (some ((shr .u64 t260 (IntKind.u64.wrap (8 * (Int.tmod a1 8)))) % 256)) else (none))
set_option maxHeartbeats 8000000 in
set_option maxRecDepth 100000 in
theorem ferryref03_Peek.calls (k : Nat) (A0_0 : Option Addr) (c0_0 : Nat) (l0_0 : List (S53)) (A0_1 : Option Addr) (c0_1 : Nat) (l0_1 : List (S55)) (a1 : Int) (r : Int) (w : World) (hr0_0 : Kd.C k53 w A0_0 l0_0.length l0_0) (hc0_0 : l0_0.length ≤ c0_0) (hr0_1 : Kd.C k55 w A0_1 l0_1.length l0_1) (hc0_1 : l0_1.length ≤ c0_1) (h : ferryref03_Peek.f k l0_0 l0_1 a1 = some r) :
    Calls Try.prog 20 #[.agg #[.slice A0_0 l0_0.length c0_0, .slice A0_1 l0_1.length c0_1], .int .u64 a1] w fun e w' => e = .returned (.int .u8 r) ∧ Below w.heap.size w w' := by
  have hu25 := Try.underlying25
  have HR0_0 := Aside0.mk hr0_0
  have HC0_0 := Aside0.mk hc0_0
  clear hr0_0 hc0_0
  have HR0_1 := Aside0.mk hr0_1
  have HC0_1 := Aside0.mk hc0_1
  clear hr0_1 hc0_1
  have HB := Aside0.mk (Below.refl w.heap.size w)
  have H : ((ferryref03_word.f k l0_0 l0_1 (IntKind.u64.wrap (a1 - (Int.tmod a1 8)))).bind fun t260 => (if 0 ≤ (IntKind.u64.wrap (8 * (Int.tmod a1 8))) then (some ((shr .u64 t260 (IntKind.u64.wrap (8 * (Int.tmod a1 8)))) % 256)) else (none))) = some r := h
  clear h
  replace H := Option.bind_eq_some_iff.mp H
  obtain ⟨t260, A30, H⟩ := H
  replace H : (if 0 ≤ (IntKind.u64.wrap (8 * (Int.tmod a1 8))) then (some ((shr .u64 t260 (IntKind.u64.wrap (8 * (Int.tmod a1 8)))) % 256)) else (none)) = some r := H
  have A3 := Aside0.mk A30
  clear A30
  obtain ⟨ji4, hji4⟩ : ∃ j_ : Int, (IntKind.u64.wrap (8 * (Int.tmod a1 8))) = j_ := ⟨_, rfl⟩
  replace H : (if 0 ≤ (ji4) then (some ((shr .u64 t260 (ji4)) % 256)) else (none)) = some r := by first | (rw [hji4] at H; exact H) | (simp only [hji4] at H ⊢; exact H)
  (try rw [hji4] at A3)
  by_cases c5 : 0 ≤ (ji4)
  · rw [if_pos c5] at H
    have c5b0 := eq_true c5
    have c5b1 : decide (0 ≤ (ji4)) = true := decide_eq_true c5
    clear c5
    obtain ⟨ji6, hji6⟩ : ∃ j_ : Int, (shr .u64 t260 (ji4)) = j_ := ⟨_, rfl⟩
    replace H : (some ((ji6) % 256)) = some r := by first | (rw [hji6] at H; exact H) | (simp only [hji6] at H ⊢; exact H)
    (try rw [hji6] at A3)
    have hji6_ : (t260 / 2 ^ min (ji4).toNat 64) = ji6 := hji6
    have hji6z : (ji4) ≤ 64 → (t260 / 2 ^ (ji4).toNat) = ji6 := shr_small hji6
    obtain rfl := Option.some.inj H
    go_enter Try.func20, Try.ntmps20
    go_wp2_with (first | ((with_reducible refine gate_dst (N := 2) rfl ?_); refine box_event ?hg (N := 2) ?hd (cs := #[.slice A0_0 l0_0.length c0_0, .slice A0_1 l0_1.length c0_1]) (t := 25) ?hr ?_; (case hd => rfl); (case hg => rfl); (case hr => first | (go_simp; done) | (go_simp; rfl)); intro gb259 hg w7 hbox hb; have n0_ := Aside0.mk (below_step (by repeat (first | (with_reducible first | exact HB.out | apply below_alloc | apply pw_below_drewN | apply below_drew1) | exact HB.out)) hb); have n1_ := Aside0.mk (hbox); have n2_ := Aside0.mk ((by rw [hg]; exact (below_size (by repeat (first | (with_reducible first | exact HB.out | apply below_alloc | apply pw_below_drewN | apply below_drew1) | exact HB.out))) : w.heap.size ≤ gb259)); have n3_ := Aside0.mk ((by rw [hg]; exact (below_size (by repeat (first | (with_reducible first | exact HB.out | apply below_alloc | apply pw_below_drewN | apply below_drew1) | exact HB.out))) : w.heap.size ≤ gb259)); clear HB; have HB := n0_; have BK259 := n1_; have GW259 := n2_; have GE259 := n3_; clear n0_ n1_ n2_ n3_; clear hb hbox hg; have hcz8_0 : w7.cell? ⟨gb259, 0, none⟩ = some (.slice A0_0 l0_0.length c0_0) := (blk_cell BK259.out 0).trans rfl; have hcz8_1 : w7.cell? ⟨gb259, 1, none⟩ = some (.slice A0_1 l0_1.length c0_1) := (blk_cell BK259.out 1).trans rfl; have hfz8_0 := blk_frozen BK259.out 0; have hfz8_1 := blk_frozen BK259.out 1) | ((with_reducible refine gate_callee (f := 47) rfl ?_); refine goesL_ (some 10) rfl rfl Try.func47 (by kernel_rfl) rfl #[.agg #[.slice A0_0 l0_0.length c0_0, .slice A0_1 l0_1.length c0_1], .int .u64 (IntKind.u64.wrap (a1 - (Int.tmod a1 8)))] rfl (by (try simp only [List.map_toArray, List.map_cons, List.map_nil]); first | done | rfl | (simp only [List.length_drop, List.length_take]; rfl)) ?_; (with_reducible refine (ferryref03_word.calls k _ _ l0_0 _ _ l0_1 (IntKind.u64.wrap (a1 - (Int.tmod a1 8))) t260 _ ?side1 ?side2 ?side3 ?side4 A3.out).mono ?_); (case side1 => repeat (first | exact (Kd.C_below HR0_0.out HB.out) | (with_reducible refine Kd.C_alloc ?_ _) | (with_reducible refine Kd.C_drewN ?_ _) | (with_reducible refine Kd.C_drew ?_))); (case side2 => exact HC0_0.out); (case side3 => repeat (first | exact (Kd.C_below HR0_1.out HB.out) | (with_reducible refine Kd.C_alloc ?_ _) | (with_reducible refine Kd.C_drewN ?_ _) | (with_reducible refine Kd.C_drew ?_))); (case side4 => exact HC0_1.out); rintro e w9 ⟨rfl, hb⟩; refine ⟨_, rfl, ?_⟩; have n0_ := Aside0.mk (blk_below (g := gb259) (o := .cells #[.slice A0_0 l0_0.length c0_0, .slice A0_1 l0_1.length c0_1] 25 (0, 0)) (by (with_reducible repeat (first | refine blk_drewN ?_ _ | refine blk_drew ?_ | refine blk_alloc ?_ _)); exact BK259.out) hb); have n1_ := Aside0.mk (below_step (by repeat (first | (with_reducible first | exact HB.out | apply below_alloc | apply pw_below_drewN | apply below_drew1 | refine below_set ?_ GE259.out) | exact HB.out)) hb); clear BK259; clear HB; have BK259 := n0_; have HB := n1_; clear n0_ n1_; (try clear hb); (try clear hb2); (try clear hk); (try clear hi)))
    go_ret
    exact ⟨by first | rfl | (simp [errW_none, errW_some] <;> rfl) | (simp only [← hji4, ← hji6]; first | rfl | (simp [errW_none, errW_some] <;> rfl)) | (simp [*, errW_none, errW_some] <;> rfl), by repeat (first | (with_reducible first | exact HB.out | apply below_alloc | apply pw_below_drewN | apply below_drew1 | refine below_set ?_ GE259.out) | exact HB.out)⟩
  · rw [if_neg c5] at H
    exact absurd H (by simp)

end Go.Proofs.Ytlmmipdgedfboaa.F
end
section
namespace Go.Proofs.Ytlmmipdgedfboaa.F
open Go.RowKit Go.Proofs.YtlmmipdgedfboaaW.PrintWords Go.Proofs.YtlmmipdgedfboaaW.PrintLast Go.Proofs.YtlmmipdgedfboaaW.PrintMore
theorem join64 {x y : Int} (i : Nat) (h0 : 0 ≤ x) (h1 : x ≤ 18446744073709551615) (hx : x % 2 ^ i = 0) (h2 : 0 ≤ y) (h3 : y < 2 ^ i) (h4 : y ≤ 18446744073709551615) : Go.bits .or .u64 x y = x + y := bits_join .u64 64 (by decide) u64_keep i x y h0 hx (by omega) h2 h3 (by omega)
theorem bits_nat64 (a b : Nat) (ha : a < 2 ^ 64) (hb : b < 2 ^ 64) : Go.bits .and .u64 a b = ((a &&& b : Nat) : Int) ∧ Go.bits .or .u64 a b = ((a ||| b : Nat) : Int) ∧ Go.bits .xor .u64 a b = ((a ^^^ b : Nat) : Int) := by
  have h := bits_nat .u64 64 (by decide) u64_keep a b ha hb
  refine ⟨h.1, h.2, ?_⟩
  have ha' : a % 2 ^ 64 = a := Nat.mod_eq_of_lt ha
  have hb' : b % 2 ^ 64 = b := Nat.mod_eq_of_lt hb
  have e : (BitVec.ofInt 64 (a : Int) ^^^ BitVec.ofInt 64 (b : Int)).toNat = a ^^^ b := by
    rw [BitVec.ofInt_natCast, BitVec.ofInt_natCast, BitVec.toNat_xor, BitVec.toNat_ofNat, BitVec.toNat_ofNat, ha', hb']
  show IntKind.u64.wrap (((BitVec.ofInt 64 (a : Int) ^^^ BitVec.ofInt 64 (b : Int)).toNat : Nat) : Int) = _
  rw [e]
  have : a ^^^ b < 2 ^ 64 := Nat.xor_lt_two_pow ha hb
  rw [u64w]
  omega
theorem bits_or_comm (k : IntKind) (x y : Int) : Go.bits .or k x y = Go.bits .or k y x := by
  simp only [Go.bits]
  rw [BitVec.or_comm]
end Go.Proofs.Ytlmmipdgedfboaa.F
end
section
namespace Go.Proofs.Ytlmmipdgedfboaa.F
open Go.RowKit Go.Proofs.YtlmmipdgedfboaaW.PrintWords Go.Proofs.YtlmmipdgedfboaaW.PrintLast Go.Proofs.YtlmmipdgedfboaaW.PrintMore
set_option linter.unusedVariables false
theorem without64 {x : Int} (i j : Nat) (hij : i + j ≤ 64) (h0 : 0 ≤ x) (h1 : x ≤ 18446744073709551615) : Go.bits .andNot .u64 x ((2 ^ i - 1) * 2 ^ j) = x - x / 2 ^ j % 2 ^ i * 2 ^ j := by
  obtain ⟨n, rfl⟩ := Int.eq_ofNat_of_zero_le h0
  have hp : 0 < 2 ^ i := Nat.two_pow_pos i
  have e : (((2 : Int) ^ i - 1) * 2 ^ j) = (((2 ^ i - 1) * 2 ^ j : Nat) : Int) := by
    rw [Int.natCast_mul, Int.natCast_sub hp]
    simp
  have hb : (2 ^ i - 1) * 2 ^ j < 2 ^ 64 := by
    have h2 : (2 ^ i - 1) * 2 ^ j < 2 ^ i * 2 ^ j := Nat.mul_lt_mul_of_pos_right (by omega) (Nat.two_pow_pos j)
    rw [← Nat.pow_add] at h2
    exact Nat.lt_of_lt_of_le h2 (Nat.pow_le_pow_right (by decide) hij)
  rw [e, andNot64 n _ (by omega) hb, nat_mask_at]
  simp
end Go.Proofs.Ytlmmipdgedfboaa.F
end
section
set_option linter.unusedVariables false
namespace Go.Proofs.Ytlmmipdgedfboaa.F
def leN : Nat → (Nat → Nat) → Nat
  | 0, _ => 0
  | n + 1, f => f 0 + 256 * leN n (fun i => f (i + 1))
theorem leN_congr : ∀ {n : Nat} {f g : Nat → Nat}, (∀ i, i < n → f i = g i) → leN n f = leN n g
  | 0, _, _, _ => rfl
  | n + 1, f, g, h => by
    unfold leN
    rw [h 0 (by omega), leN_congr (n := n) (fun i hi => h (i + 1) (by omega))]
theorem leN_bytes : ∀ (n o w : Nat), leN n (fun i => byteAt w (o + i)) = w / 256 ^ o % 256 ^ n
  | 0, o, w => by simp [leN, Nat.mod_one]
  | n + 1, o, w => by
    unfold leN
    have e : (fun i => byteAt w (o + (i + 1))) = fun i => byteAt w ((o + 1) + i) := by
      funext i
      rw [Nat.add_assoc, Nat.add_comm 1 i]
    rw [e, leN_bytes n (o + 1) w]
    show byteAt w (o + 0) + 256 * (w / 256 ^ (o + 1) % 256 ^ n) = _
    rw [Nat.add_zero]
    unfold byteAt
    rw [Nat.pow_succ 256 o, ← Nat.div_div_eq_div_mul, Nat.pow_succ 256 n, Nat.mul_comm (256 ^ n) 256, Nat.mod_mul]
theorem leN_lt : ∀ (n : Nat) (f : Nat → Nat), (∀ i, i < n → f i < 256) → leN n f < 256 ^ n
  | 0, _, _ => by simp [leN]
  | n + 1, f, h => by
    unfold leN
    have h1 := leN_lt n (fun i => f (i + 1)) (fun i hi => h (i + 1) (by omega))
    have h0 := h 0 (by omega)
    rw [Nat.pow_succ, Nat.mul_comm]
    omega
theorem word_bytes {w : Nat} (h : w < 256 ^ 8) : leN 8 (byteAt w) = w := by
  have := leN_bytes 8 0 w
  simp only [Nat.zero_add, Nat.pow_zero, Nat.div_one] at this
  rw [this, Nat.mod_eq_of_lt h]
theorem word_ext {w x : Nat} (hw : w < 256 ^ 8) (hx : x < 256 ^ 8) (h : ∀ k, k < 8 → byteAt w k = byteAt x k) : w = x := by
  rw [← word_bytes hw, ← word_bytes hx]
  exact leN_congr h
theorem byteAt_lt (w k : Nat) : byteAt w k < 256 := Nat.mod_lt _ (by decide)
end Go.Proofs.Ytlmmipdgedfboaa.F
end
section
namespace Go.Proofs.Ytlmmipdgedfboaa.F
open Go.RowKit Go.Shelf Go.Proofs.YtlmmipdgedfboaaW.PrintWords Go.Proofs.YtlmmipdgedfboaaW.PrintLast Go.Proofs.YtlmmipdgedfboaaW.PrintMore
set_option linter.unusedVariables false
set_option linter.unusedSimpArgs false
theorem placeFrom_bd (a : Int) : ∀ (l : List SM) (i : Nat), placeFrom a l i = -1 ∨ ∃ j, j < l.length ∧ placeFrom a l i = ((i + j : Nat) : Int)
  | [], _ => Or.inl rfl
  | x :: l, i => by
    unfold placeFrom
    split
    · exact Or.inr ⟨0, by simp, by simp⟩
    · rcases placeFrom_bd a l (i + 1) with h | ⟨j, hj, h⟩
      · exact Or.inl h
      · exact Or.inr ⟨j + 1, by simp; omega, by rw [h]; congr 1; omega⟩
theorem placeFrom_at (a : Int) : ∀ (l : List SM) (i : Nat) (j : Nat) (hj : j < l.length), placeFrom a l i = ((i + j : Nat) : Int) → l[j].f1 = look mpK mpV a l
  | [], _, j, hj, _ => by simp at hj
  | x :: l, i, j, hj, h => by
    unfold placeFrom at h
    unfold look
    by_cases hx : x.f0 = a
    · rw [if_pos hx] at h
      rw [if_pos hx]
      obtain rfl : j = 0 := by omega
      rfl
    · rw [if_neg hx] at h
      rw [if_neg hx]
      rcases placeFrom_bd a l (i + 1) with h2 | ⟨k, hk, h2⟩
      · omega
      · obtain rfl : j = k + 1 := by omega
        exact placeFrom_at a l (i + 1) k hk h2
theorem ref_word_l0 (a : Int) (l : List SM) (m : List SC) (hm : m.length ≤ 1000000) : ∀ (k i : Nat), i ≤ m.length → m.length - i < k → ferryref03_word.l0 k a (i : Int) l m = some (look clK clV a (m.drop i))
  | 0, i, _, h => by omega
  | k + 1, i, hi, h => by
    unfold ferryref03_word.l0
    by_cases hlt : i < m.length
    · rw [if_pos (by omega), if_pos (by omega), cl_getR hlt, List.drop_eq_getElem_cons hlt]
      unfold look
      have hw : wrap64 ((i : Int) + 1) = ((i + 1 : Nat) : Int) := by unfold wrap64; omega
      rw [hw, ref_word_l0 a l m hm k (i + 1) hlt (by omega)]
      split <;> rfl
    · rw [if_neg (by omega), List.drop_eq_nil_of_le (by omega)]
      rfl
theorem ref_word (a : Int) (l : List SM) (m : List SC) (hm : m.length ≤ 1000000) : ∀ k, m.length < k → ferryref03_word.f k l m a = some (wrd m a) := fun k hk => ref_word_l0 a l m hm k 0 (Nat.zero_le _) (by omega)
theorem ref_place (a : Int) (l : List SM) (m : List SC) (hl : l.length ≤ 1000000) : ∀ k, l.length < k → ferryref03_Place.f k l m a = some (placeR l a) := fun k hk => place_l0 a l m hl k 0 (Nat.zero_le _) (by omega)
theorem ref_fault (l : List SM) (m : List SC) (hl : l.length ≤ 1000000) {a : Int} (need : Int) (h0 : 0 ≤ a) (h1 : a < 18446744073709551616) : ∀ k, l.length < k → ferryref03_fault.f k l m a need = some (faultS l a need) := by
  intro k hk
  unfold ferryref03_fault.f
  rw [quo_u64 h0 h1 (by omega), ref_place _ l m hl k hk, Option.bind_some]
  unfold faultS
  have hp := placeR_has l (a / 16384)
  rcases placeFrom_bd (a / 16384) l 0 with h | ⟨j, hj, h⟩
  · have h2 : placeR l (a / 16384) = -1 := h
    rw [h2] at hp ⊢
    have h3 : has mpK (a / 16384) l = false := by revert hp; cases has mpK (a / 16384) l <;> simp
    rw [if_pos (by omega), h3]
    rfl
  · have h2 : placeR l (a / 16384) = ((j : Nat) : Int) := by rw [show placeR l (a / 16384) = _ from h]; congr 1; omega
    rw [h2] at hp ⊢
    have h3 : has mpK (a / 16384) l = true := by
      revert hp
      rw [decide_eq_false (by omega)]
      cases has mpK (a / 16384) l <;> simp
    rw [if_neg (by omega), if_pos (by omega), if_pos (by omega), mp_getR hj, h3, if_pos rfl]
    have h4 := placeFrom_at (a / 16384) l 0 j hj h
    rw [h4]
    unfold prt
    split <;> rfl
theorem ref_ask_l0 (l : List SM) (m : List SC) (hl : l.length ≤ 1000000) {a : Int} (need : Int) (n : Nat) (hn : n ≤ 8) (h0 : 0 ≤ a) (h1 : a < 18446744073709551616) :
    ∀ (k i : Nat), i ≤ n → n - i + l.length + 1 < k → ferryref03_ask.l0 k a (n : Int) need (i : Int) l m = some (askS l a need (n - i) i)
  | 0, i, _, h => by omega
  | k + 1, i, hi, h => by
    unfold ferryref03_ask.l0
    by_cases hlt : i < n
    · have hw1 : IntKind.u64.wrap (i : Int) = (i : Int) := by rw [u64w]; omega
      have hw : wrap64 ((i : Int) + 1) = ((i + 1 : Nat) : Int) := by unfold wrap64; omega
      rw [if_pos (by omega), hw1, u64w, ref_fault l m hl need (by omega) (by omega) k (by omega), Option.bind_some, show n - i = (n - (i + 1)) + 1 by omega]
      unfold askS
      rw [hw, ref_ask_l0 l m hl need n hn h0 h1 k (i + 1) hlt (by omega)]
      split
      · rw [if_neg (by omega)]
      · split <;> rfl
    · obtain rfl : i = n := by omega
      rw [if_neg (by omega), Nat.sub_self]
      rfl
theorem ref_ask (l : List SM) (m : List SC) (hl : l.length ≤ 1000000) {a : Int} (need : Int) (n : Nat) (hn : n ≤ 8) (h0 : 0 ≤ a) (h1 : a < 18446744073709551616) :
    ∀ k, n + l.length + 1 < k → ferryref03_ask.f k l m a (n : Int) need = some (askS l a need n 0) := fun k hk => ref_ask_l0 l m hl need n hn h0 h1 k 0 (Nat.zero_le _) (by omega)
theorem host_ask_l0 (l : List SM) (m : List SC) (hl : l.length ≤ 1000000) (hr : Rises mpK l) {a : Int} (need : Int) (n : Nat) (hn : n ≤ 8) (h0 : 0 ≤ a) (h1 : a < 18446744073709551616) :
    ∀ (k i : Nat), i ≤ n → 2 * (n - i) < k → host_ask.l0 k a need (n : Int) (i : Int) l m = some (askS l a need (n - i) i)
  | 0, i, _, h => by omega
  | 1, i, hi, h => by
    unfold host_ask.l0
    obtain rfl : i = n := by omega
    rw [if_neg (by omega), Nat.sub_self]
    rfl
  | k + 2, i, hi, h => by
    unfold host_ask.l0
    by_cases hlt : i < n
    · have hw : IntKind.u64.wrap ((i : Int) + 1) = ((i + 1 : Nat) : Int) := by rw [u64w]; omega
      have hq : IntKind.u64.wrap (a + (i : Int)) = (a + (i : Int)) % 18446744073709551616 := u64w _
      have ih := host_ask_l0 l m hl hr need n hn h0 h1 k (i + 1) hlt (by omega)
      rw [if_pos (by omega), hq, quo_u64 (by omega) (by omega) (by omega), map_at_some m _ hl ((risesB_iff l).2 hr), Option.bind_some, show n - i = (n - (i + 1)) + 1 by omega]
      unfold askS
      generalize (a + (i : Int)) % 18446744073709551616 = b
      dsimp only
      unfold faultS
      cases hh : has mpK (b / 16384) l with
      | false =>
        rw [if_neg (show ¬ (false = true) by decide), if_neg (show ¬ (false = true) by decide)]
        unfold host_ask.j1
        rw [if_pos rfl]
        split
        · rfl
        · rw [if_neg (by decide)]
      | true =>
        rw [if_pos rfl, if_pos rfl]
        unfold host_ask.j1
        obtain ⟨hj, h3, h4⟩ := low_hit (val := mpV) hr hh
        by_cases hb : b < a
        · rw [decide_eq_true hb, if_pos rfl, if_pos hb]
          try rfl
        · rw [decide_eq_false hb, if_neg (show ¬ (false = true) by decide), if_neg hb, if_pos (by omega), if_pos (by omega), mp_getR hj]
          have h5 : (l[lowB mpK (b / 16384) l]).f1 = prt l (b / 16384) := h4
          rw [h5, hw, ih]
          by_cases hz : Go.bits .and .i64 (prt l (b / 16384)) need = 0
          · rw [if_pos hz, if_pos hz, if_neg (by decide)]
          · rw [if_neg hz, if_neg hz, if_pos rfl]
            rfl
    · obtain rfl : i = n := by omega
      rw [if_neg (by omega), Nat.sub_self]
      rfl
theorem host_ask_spec (l : List SM) (m : List SC) (hl : l.length ≤ 1000000) (hr : Rises mpK l) {a : Int} (need : Int) (n : Nat) (hn : n ≤ 8) (h0 : 0 ≤ a) (h1 : a < 18446744073709551616) (k : Nat) (hk : 2 * n < k) :
    host_ask.f k l m a (n : Int) need = some (askS l a need n 0) := by
  unfold host_ask.f
  rw [show IntKind.u64.wrap (n : Int) = (n : Int) by rw [u64w]; omega]
  exact host_ask_l0 l m hl hr need n hn h0 h1 k 0 (Nat.zero_le _) (by omega)
theorem host_word_spec (l : List SM) (m : List SC) (hm : m.length ≤ 1000000) (hr : Rises clK m) (a : Int) : host_word.f l m a = some (wrd m a) := by
  unfold host_word.f host_cellAt.f
  rw [if_pos ⟨hm, (risesB_iff m).2 hr⟩, Option.bind_some]
  dsimp only
  unfold wrd
  cases hh : has clK a m with
  | false =>
    rw [if_neg (by simp)]
    rw [look_none clK clV (fun x hx => ?_)]
    have := List.any_eq_false.1 hh x hx
    simpa using this
  | true =>
    obtain ⟨hj, h3, h4⟩ := low_hit (val := clV) hr hh
    rw [if_pos rfl, if_pos (by omega), if_pos (by omega), cl_getR hj]
    exact congrArg some h4
end Go.Proofs.Ytlmmipdgedfboaa.F
end
