import Derived.Below
import Derived.Deep.Draws
import Derived.Deep.AppendLies
import Derived.Maps.AppendAt
import Derived.OwnWalk
import Derived.Laws.BytesArg
import Derived.Laws.MakeOwn
import Derived.Laws.OwnMore
import Derived.Deep.OwnRows
import Derived.Tactics
import Derived.Lib.ConvBytes
import Derived.Laws.Slices
import Derived.WalkKit
import Derived.KernelRfl
import Derived.RowKit3
import Derived.Deep.LoopGhost
import Derived.Deep.QuietTactic
import Derived.BigQuiet
import Derived.WideLaws
import Derived.Deep.DeepCutAuto
import Derived.Deep.CutBlock
import Derived.Deep.RegionHeld3
import Derived.Laws.Rows
import Derived.Lib.AppendStr
import Derived.ArgAppend
import Derived.Laws.IdiomCopy
import Derived.RowKit
import Derived.OpenShut
import Derived.ProofKit
import Derived.Deep.Slices
import Derived.SizedLaws
import Derived.OrdersHeld
import Derived.Laws.BitsLemmas
import Derived.Laws.StructEq
import Derived.OwnWalkIn
import Derived.WalkSmall
import Derived.Laws.ResultCell
import Derived.Lib.Hide
import Derived.Shelf.RegionOpen
import Derived.Shelf.Abstract
import Derived.Lib.SliceRun
import Derived.Shelf.Spec.SlicesInsertGrow
import Derived.Test.YtlmmipdgedfboaaZF0
import Derived.Test.YtlmmipdgedfboaaYA0
import Derived.Test.YtlmmipdgedfboaaYA1HHost0
import Derived.Test.YtlmmipdgedfboaaYA3FHostAsk
import Derived.Test.YtlmmipdgedfboaaYA4FHostWord
import Derived.Test.YtlmmipdgedfboaaYA5FHostLoad
import Derived.Test.YtlmmipdgedfboaaYA7Slc
import Derived.Test.YtlmmipdgedfboaaYA10
import Derived.Test.YtlmmipdgedfboaaYA11HHost4
import Derived.Test.YtlmmipdgedfboaaYA12HHost5
import Derived.Test.YtlmmipdgedfboaaYA13HHost6
import Derived.Test.YtlmmipdgedfboaaYA14FFerrylaw03Awake
import Derived.Test.YtlmmipdgedfboaaYA15
import Derived.Test.YtlmmipdgedfboaaYA16HHost11
section
namespace Go.Proofs.Ytlmmipdgedfboaa.Opens
open Go.ChangeShapes Go.WideShapes Go.RowKit Go.Deep
open Go.Proofs.YtlmmipdgedfboaaW.PrintWords

def Opens {α : Type} (P : Program) (t : TypeId) (d : Kd α) (wf : α → Prop) : Prop :=
  P.cellsOf t = d.sz ∧ ∀ {H : Type} (enc : TypeId × Value → H) (w : World) (base : Nat) (spare : Nat → Bool) (held : Bool) (fuel : Nat) (cs : List Value) (x : DataW H × List MemPlace),
    DataW.trod enc P w base spare held fuel t cs = some x → ∃ a : α, d.K w a cs ∧ wf a
theorem opens_int {P : Program} {t : TypeId} {k : IntKind} (hc : P.cellsOf t = 1) (ht : P.underlying t = some (.int k)) : Opens P t (Kd.int k) (fun n => (Lit.int k n).wf = true) :=
  ⟨hc, fun enc w base spare held fuel cs x h => by
    obtain ⟨n, rfl, _, hw⟩ := DataW.trod_int ht h
    exact ⟨n, rfl, hw⟩⟩
theorem add_add (a : Addr) (i j : Nat) : (a.add i).add j = a.add (i + j) := by
  obtain ⟨b, o, s⟩ := a
  unfold Addr.add
  by_cases h1 : i = 0
  · subst h1
    simp
  · by_cases h2 : j = 0
    · subst h2
      simp [h1]
    · simp [h1, h2, Nat.add_assoc]
theorem list_of {α : Type} {p : Nat → α → Prop} : ∀ (n : Nat), (∀ i, i < n → ∃ a, p i a) → ∃ l : List α, l.length = n ∧ ∀ (i : Nat) (a : α), l[i]? = some a → p i a
  | 0, _ => ⟨[], rfl, fun i a h => by simp at h⟩
  | n + 1, h => by
    obtain ⟨l, hl, hp⟩ := list_of n (fun i hi => h i (by omega))
    obtain ⟨a, ha⟩ := h n (by omega)
    refine ⟨l ++ [a], by simp [hl], fun i b hb => ?_⟩
    rcases Nat.lt_or_ge i n with hi | hi
    · rw [List.getElem?_append_left (by omega)] at hb
      exact hp i b hb
    · rw [List.getElem?_append_right (by omega)] at hb
      have : i = n := by
        rcases Nat.lt_or_ge (i - l.length) 1 with h1 | h1
        · omega
        · rw [List.getElem?_eq_none (by simpa using h1)] at hb
          cases hb
      subst this
      simp [hl] at hb
      subst hb
      exact ha
theorem opens_slice {α : Type} {P : Program} {t e : TypeId} {d : Kd α} {wf : α → Prop} (hc : P.cellsOf t = 1) (ht : P.underlying t = some (.slice e)) (he : Opens P e d wf) :
    Opens P t (Kd.slice e d) (fun l => l.length ≤ 9223372036854775807 ∧ ∀ x ∈ l, wf x) :=
  ⟨hc, fun enc w base spare held fuel cs x h => by
    rcases open_slice ht h with ⟨rfl, _⟩ | ⟨a, len, cap, m, n, D, Pl, rfl, _, hl, hm, hmm, _, hx⟩
    · exact ⟨[], ⟨none, 0, rfl, Nat.le_refl _, Kd.C_nil d w⟩, by simp, by simp⟩
    · have hlm : len ≤ m := by rw [hmm]; split <;> omega
      obtain ⟨l, hll, hp⟩ := list_of (p := fun i (y : α) => wf y ∧ ∃ c, c.length = d.sz ∧ d.K w y c ∧ ∀ (j : Nat) (u : Value), c[j]? = some u → w.cell? (a.add (i * d.sz + j)) = some u) len (fun i hi => by
        obtain ⟨cs', h1, h2⟩ := hx i (by omega)
        obtain ⟨y, hK, hw⟩ := he.2 enc w base spare held n cs' _ h2
        obtain ⟨_, hlen, hcell⟩ := World.cells?_some h1
        refine ⟨y, hw, cs', d.K_len hK, hK, fun j u hu => ?_⟩
        have hj : j < cs'.length := by
          rcases Nat.lt_or_ge j cs'.length with h' | h'
          · exact h'
          · rw [List.getElem?_eq_none h'] at hu
            cases hu
        have z := hcell j (by omega)
        rw [hu] at z
        rw [← he.1, ← z]
        congr 1
        exact (add_add a _ _).symm)
      have hmax : len ≤ 9223372036854775807 := by unfold maxLen at hm; omega
      refine ⟨l, ⟨some a, cap, by rw [hll], by omega, hll ▸ rfl, by omega, fun _ => ⟨a, rfl, fun j p hj => ?_⟩⟩, by omega, fun y hy => ?_⟩
      · exact (hp j p hj).2
      · obtain ⟨i, hi, e⟩ := List.getElem_of_mem hy
        exact (hp i y (by rw [List.getElem?_eq_getElem hi, e])).1⟩

structure OpensF {α : Type} (P : Program) (fl : List Field) (off : Nat) (d : Kd α) (wf : α → Prop) : Prop where
  out : ∀ {H : Type} (enc : TypeId × Value → H) (w : World) (base : Nat) (spare : Nat → Bool) (held : Bool) (fuel : Nat) (cs : List Value), cs.length = off + d.sz →
    (∀ (i : Nat) (f : Field), fl[i]? = some f → ∃ y, DataW.trod enc P w base spare held fuel f.type ((cs.drop f.offset).take (P.cellsOf f.type)) = some y) → ∃ a : α, d.K w a (cs.drop off) ∧ wf a
theorem opens_one {α : Type} {P : Program} {f : Field} {off : Nat} {d : Kd α} {wf : α → Prop} (ho : f.offset = off) (h : Opens P f.type d wf) : OpensF P [f] off d wf := by
  constructor
  intro H enc w base spare held fuel cs hl hf
  obtain ⟨y, hy⟩ := hf 0 f rfl
  obtain ⟨a, hK, hw⟩ := h.2 enc w base spare held fuel _ y hy
  have e : (cs.drop f.offset).take (P.cellsOf f.type) = cs.drop off := by
    rw [ho]
    apply List.take_of_length_le
    rw [h.1, List.length_drop]
    omega
  rw [e] at hK
  exact ⟨a, hK, hw⟩
theorem opens_cons {α β : Type} {P : Program} {f : Field} {fl : List Field} {off : Nat} {d : Kd α} {d' : Kd β} {wf : α → Prop} {wf' : β → Prop} (ho : f.offset = off) (h : Opens P f.type d wf) (hr : OpensF P fl (off + d.sz) d' wf') :
    OpensF P (f :: fl) off (Kd.pair d d') (fun x => wf x.1 ∧ wf' x.2) := by
  constructor
  intro H enc w base spare held fuel cs hl hf
  have hl' : cs.length = off + (d.sz + d'.sz) := hl
  obtain ⟨y, hy⟩ := hf 0 f rfl
  obtain ⟨a, hK, hw⟩ := h.2 enc w base spare held fuel _ y hy
  obtain ⟨b, hK', hw'⟩ := hr.out enc w base spare held fuel cs (by omega) (fun i g hg => hf (i + 1) g (by simpa using hg))
  refine ⟨(a, b), ⟨(cs.drop off).take d.sz, cs.drop (off + d.sz), ?_, ?_, hK'⟩, hw, hw'⟩
  · rw [← List.drop_drop, List.take_append_drop]
  · rw [ho, h.1] at hK
    exact hK
theorem opens_struct {α : Type} {P : Program} {t : TypeId} {fs : Array Field} {d : Kd α} {wf : α → Prop} (hc : P.cellsOf t = d.sz) (ht : P.underlying t = some (.struct fs)) (h : OpensF P fs.toList 0 d wf) : Opens P t d wf :=
  ⟨hc, fun enc w base spare held fuel cs x hx => by
    obtain ⟨xs, n, _, _, hl, hlen, hf⟩ := DataW.trod_struct ht hx
    have z := h.out enc w base spare held n cs (by omega) (fun i f hi => by
      have hi' : fs[i]? = some f := by simpa using hi
      have hlt : i < fs.size := by
        rcases Nat.lt_or_ge i fs.size with h' | h'
        · exact h'
        · rw [Array.getElem?_eq_none h'] at hi'
          cases hi'
      rw [hf i f hi', List.getElem?_eq_getElem (by omega)]
      exact ⟨_, rfl⟩)
    simpa using z⟩
theorem opens_iso {α β : Type} {P : Program} {t : TypeId} {d : Kd α} {wf : α → Prop} {f : β → α} (g : α → β) (hg : ∀ a, f (g a) = a) (h : Opens P t d wf) : Opens P t (Kd.iso d f) (fun b => wf (f b)) :=
  ⟨h.1, fun enc w base spare held fuel cs x hx => by
    obtain ⟨a, hK, hw⟩ := h.2 enc w base spare held fuel cs x hx
    exact ⟨g a, by show d.K w (f (g a)) cs; rw [hg]; exact hK, by show wf (f (g a)); rw [hg]; exact hw⟩⟩

theorem Opens.imp {α : Type} {P : Program} {t : TypeId} {d : Kd α} {wf wf' : α → Prop} (h : Opens P t d wf) (hi : ∀ a, wf a → wf' a) : Opens P t d wf' :=
  ⟨h.1, fun enc w base spare held fuel cs x hx => by
    obtain ⟨a, hK, hw⟩ := h.2 enc w base spare held fuel cs x hx
    exact ⟨a, hK, hi a hw⟩⟩
theorem wf_u64 {n : Int} (h : (Lit.int .u64 n).wf = true) : 0 ≤ n ∧ n ≤ 18446744073709551615 := by
  simp only [Lit.wf, Bool.and_eq_true, decide_eq_true_eq] at h
  exact ⟨h.1, h.2⟩
theorem opens_u64 {P : Program} {t : TypeId} (hc : P.cellsOf t = 1) (ht : P.underlying t = some (.int .u64)) : Opens P t (Kd.int .u64) (fun n => 0 ≤ n ∧ n ≤ 18446744073709551615) := (opens_int hc ht).imp (fun _ h => wf_u64 h)
theorem wf_i64 {n : Int} (h : (Lit.int .i64 n).wf = true) : (-9223372036854775808) ≤ n ∧ n ≤ 9223372036854775807 := by
  simp only [Lit.wf, Bool.and_eq_true, decide_eq_true_eq] at h
  exact ⟨h.1, h.2⟩
theorem opens_i64 {P : Program} {t : TypeId} (hc : P.cellsOf t = 1) (ht : P.underlying t = some (.int .i64)) : Opens P t (Kd.int .i64) (fun n => (-9223372036854775808) ≤ n ∧ n ≤ 9223372036854775807) := (opens_int hc ht).imp (fun _ h => wf_i64 h)

theorem arg_struct {α H : Type} {P : Program} {w : World} {base b0 : Nat} {r : Reach} {spare : Nat → Bool} {held : Bool} {enc : TypeId × Value → H} {t : TypeId} {fs : Array Field} {d : Kd α} {wf : α → Prop} {v : Value} {x : DataW H} {p : List MemPlace}
    (ht : P.underlying t = some (.struct fs)) (hv : Value.okWide P w r b0 t v) (ho : Opens P t d wf) (h : DataW.Trod enc P w base spare held t v x p) : ∃ (cs : List Value) (a : α), v = .agg cs.toArray ∧ d.K w a cs ∧ wf a := by
  obtain ⟨cs, rfl, hsz⟩ := okWide_struct ht hv
  obtain ⟨fuel, hf⟩ := h
  obtain ⟨a, hK, hw⟩ := ho.2 enc w base spare held fuel _ _ hf
  exact ⟨cs.toList, a, by simp, by simpa [Value.cells] using hK, hw⟩
end Go.Proofs.Ytlmmipdgedfboaa.Opens
end
section
namespace Go.Proofs.Ytlmmipdgedfboaa.F
open Go.RowKit Go.Proofs.YtlmmipdgedfboaaW.PrintWords Go.Proofs.YtlmmipdgedfboaaW.PrintLast Go.Proofs.YtlmmipdgedfboaaW.PrintMore

def wfS53 (x : S53) : Prop := (0 ≤ x.f0 ∧ x.f0 ≤ 18446744073709551615) ∧ ((-9223372036854775808) ≤ x.f1 ∧ x.f1 ≤ 9223372036854775807)
theorem opens_S53 : Opens.Opens Try.prog 53 k53 wfS53 := Opens.opens_iso (fun a => (⟨a.1, a.2⟩ : S53)) (fun _ => rfl) (Opens.opens_struct (by kernel_rfl) Try.underlying53 (Opens.opens_cons rfl (Opens.opens_u64 (by kernel_rfl) (by kernel_rfl)) (Opens.opens_one rfl (Opens.opens_i64 (by kernel_rfl) (by kernel_rfl)))))
def wfS55 (x : S55) : Prop := (0 ≤ x.f0 ∧ x.f0 ≤ 18446744073709551615) ∧ (0 ≤ x.f1 ∧ x.f1 ≤ 18446744073709551615)
theorem opens_S55 : Opens.Opens Try.prog 55 k55 wfS55 := Opens.opens_iso (fun a => (⟨a.1, a.2⟩ : S55)) (fun _ => rfl) (Opens.opens_struct (by kernel_rfl) Try.underlying55 (Opens.opens_cons rfl (Opens.opens_u64 (by kernel_rfl) (by kernel_rfl)) (Opens.opens_one rfl (Opens.opens_u64 (by kernel_rfl) (by kernel_rfl)))))
end Go.Proofs.Ytlmmipdgedfboaa.F
end
section
namespace Go.Proofs.Ytlmmipdgedfboaa.F
open Go.RowKit Go.Proofs.YtlmmipdgedfboaaW.PrintWords Go.Proofs.YtlmmipdgedfboaaW.PrintLast Go.Proofs.YtlmmipdgedfboaaW.PrintMore
theorem u64w (n : Int) : IntKind.u64.wrap n = n % 18446744073709551616 := by simp [IntKind.wrap, IntKind.bits, IntKind.signed]
theorem u64_keep (n : Int) (h₀ : 0 ≤ n) (h₁ : n < 2 ^ 64) : IntKind.u64.wrap n = n := by rw [u64w]; omega
theorem mask64 {x : Int} (i : Nat) (hi : i ≤ 64) (h0 : 0 ≤ x) (h1 : x ≤ 18446744073709551615) : Go.bits .and .u64 x (2 ^ i - 1) = x % 2 ^ i := bits_mask .u64 64 (by decide) u64_keep i hi x h0 (by omega)
theorem join64 {x y : Int} (i : Nat) (h0 : 0 ≤ x) (h1 : x ≤ 18446744073709551615) (hx : x % 2 ^ i = 0) (h2 : 0 ≤ y) (h3 : y < 2 ^ i) (h4 : y ≤ 18446744073709551615) : Go.bits .or .u64 x y = x + y := bits_join .u64 64 (by decide) u64_keep i x y h0 hx (by omega) h2 h3 (by omega)
theorem bits_nat64 (a b : Nat) (ha : a < 2 ^ 64) (hb : b < 2 ^ 64) : Go.bits .and .u64 a b = ((a &&& b : Nat) : Int) ∧ Go.bits .or .u64 a b = ((a ||| b : Nat) : Int) ∧ Go.bits .xor .u64 a b = ((a ^^^ b : Nat) : Int) := by
  have h := bits_nat .u64 64 (by decide) u64_keep a b ha hb
  refine ⟨h.1, h.2, ?_⟩
  have ha' : a % 2 ^ 64 = a := Nat.mod_eq_of_lt ha
  have hb' : b % 2 ^ 64 = b := Nat.mod_eq_of_lt hb
  have e : (BitVec.ofInt 64 (a : Int) ^^^ BitVec.ofInt 64 (b : Int)).toNat = a ^^^ b := by
    rw [BitVec.ofInt_natCast, BitVec.ofInt_natCast, BitVec.toNat_xor, BitVec.toNat_ofNat, BitVec.toNat_ofNat, ha', hb']
  show IntKind.u64.wrap (((BitVec.ofInt 64 (a : Int) ^^^ BitVec.ofInt 64 (b : Int)).toNat : Nat) : Int) = _
  rw [e]
  have : a ^^^ b < 2 ^ 64 := Nat.xor_lt_two_pow ha hb
  rw [u64w]
  omega
theorem bits_or_comm (k : IntKind) (x y : Int) : Go.bits .or k x y = Go.bits .or k y x := by
  simp only [Go.bits]
  rw [BitVec.or_comm]
end Go.Proofs.Ytlmmipdgedfboaa.F
end
section
namespace Go.Proofs.Ytlmmipdgedfboaa.F
open Go.RowKit Go.Proofs.YtlmmipdgedfboaaW.PrintWords Go.Proofs.YtlmmipdgedfboaaW.PrintLast Go.Proofs.YtlmmipdgedfboaaW.PrintMore
set_option linter.unusedVariables false
theorem bv_andNot {w : Nat} (x y : BitVec w) : (x &&& ~~~y).toNat + (x &&& y).toNat = x.toNat := by
  have h : (x &&& ~~~y) &&& (x &&& y) = 0#w := by
    ext i hi
    simp
    cases x[i] <;> cases y[i] <;> simp
  rw [← BitVec.toNat_add_of_and_eq_zero h, BitVec.add_eq_or_of_and_eq_zero _ _ h]
  congr 1
  ext i hi
  simp
  cases x[i] <;> cases y[i] <;> simp
theorem andNot64 (a b : Nat) (ha : a < 2 ^ 64) (hb : b < 2 ^ 64) : Go.bits .andNot .u64 a b = (a : Int) - ((a &&& b : Nat) : Int) := by
  have h := bv_andNot (BitVec.ofNat 64 a) (BitVec.ofNat 64 b)
  have e : (BitVec.ofNat 64 a &&& BitVec.ofNat 64 b).toNat = a &&& b := by
    rw [BitVec.toNat_and, BitVec.toNat_ofNat, BitVec.toNat_ofNat, Nat.mod_eq_of_lt ha, Nat.mod_eq_of_lt hb]
  rw [e, BitVec.toNat_ofNat, Nat.mod_eq_of_lt ha] at h
  show IntKind.u64.wrap (((BitVec.ofInt 64 (a : Int) &&& ~~~BitVec.ofInt 64 (b : Int)).toNat : Nat) : Int) = _
  rw [BitVec.ofInt_natCast, BitVec.ofInt_natCast, u64_keep _ (by omega) (by omega)]
  omega
theorem nat_mask_at (x i j : Nat) : x &&& ((2 ^ i - 1) * 2 ^ j) = x / 2 ^ j % 2 ^ i * 2 ^ j := by
  rw [← Nat.shiftLeft_eq, ← Nat.and_two_pow_sub_one_eq_mod, ← Nat.shiftRight_eq_div_pow, ← Nat.shiftLeft_eq]
  apply Nat.eq_of_testBit_eq
  intro k
  simp only [Nat.testBit_and, Nat.testBit_shiftLeft, Nat.testBit_shiftRight, Nat.testBit_two_pow_sub_one]
  by_cases h : j ≤ k
  · simp [h]
  · simp [h]
theorem without64 {x : Int} (i j : Nat) (hij : i + j ≤ 64) (h0 : 0 ≤ x) (h1 : x ≤ 18446744073709551615) : Go.bits .andNot .u64 x ((2 ^ i - 1) * 2 ^ j) = x - x / 2 ^ j % 2 ^ i * 2 ^ j := by
  obtain ⟨n, rfl⟩ := Int.eq_ofNat_of_zero_le h0
  have hp : 0 < 2 ^ i := Nat.two_pow_pos i
  have e : (((2 : Int) ^ i - 1) * 2 ^ j) = (((2 ^ i - 1) * 2 ^ j : Nat) : Int) := by
    rw [Int.natCast_mul, Int.natCast_sub hp]
    simp
  have hb : (2 ^ i - 1) * 2 ^ j < 2 ^ 64 := by
    have h2 : (2 ^ i - 1) * 2 ^ j < 2 ^ i * 2 ^ j := Nat.mul_lt_mul_of_pos_right (by omega) (Nat.two_pow_pos j)
    rw [← Nat.pow_add] at h2
    exact Nat.lt_of_lt_of_le h2 (Nat.pow_le_pow_right (by decide) hij)
  rw [e, andNot64 n _ (by omega) hb, nat_mask_at]
  simp
end Go.Proofs.Ytlmmipdgedfboaa.F
end
section
set_option linter.unusedVariables false
namespace Go.Proofs.Ytlmmipdgedfboaa.F
def byteAt (w : Nat) (k : Nat) : Nat := w / 256 ^ k % 256
def leN : Nat → (Nat → Nat) → Nat
  | 0, _ => 0
  | n + 1, f => f 0 + 256 * leN n (fun i => f (i + 1))
theorem pos256 (n : Nat) : 0 < 256 ^ n := Nat.pow_pos (by decide)
theorem leN_congr : ∀ {n : Nat} {f g : Nat → Nat}, (∀ i, i < n → f i = g i) → leN n f = leN n g
  | 0, _, _, _ => rfl
  | n + 1, f, g, h => by
    unfold leN
    rw [h 0 (by omega), leN_congr (n := n) (fun i hi => h (i + 1) (by omega))]
theorem leN_bytes : ∀ (n o w : Nat), leN n (fun i => byteAt w (o + i)) = w / 256 ^ o % 256 ^ n
  | 0, o, w => by simp [leN, Nat.mod_one]
  | n + 1, o, w => by
    unfold leN
    have e : (fun i => byteAt w (o + (i + 1))) = fun i => byteAt w ((o + 1) + i) := by
      funext i
      rw [Nat.add_assoc, Nat.add_comm 1 i]
    rw [e, leN_bytes n (o + 1) w]
    show byteAt w (o + 0) + 256 * (w / 256 ^ (o + 1) % 256 ^ n) = _
    rw [Nat.add_zero]
    unfold byteAt
    rw [Nat.pow_succ 256 o, ← Nat.div_div_eq_div_mul, Nat.pow_succ 256 n, Nat.mul_comm (256 ^ n) 256, Nat.mod_mul]
theorem byteAt_join {a o c : Nat} (ha : a < 256 ^ o) (k : Nat) : byteAt (a + 256 ^ o * c) k = if k < o then byteAt a k else byteAt c (k - o) := by
  unfold byteAt
  by_cases hk : k < o
  · rw [if_pos hk]
    have e : 256 ^ o = 256 ^ k * (256 * 256 ^ (o - k - 1)) := by
      rw [← Nat.mul_assoc, ← Nat.pow_succ, ← Nat.pow_add]
      congr 1
      omega
    rw [e, Nat.mul_assoc, Nat.add_mul_div_left _ _ (pos256 k), Nat.mul_assoc, Nat.add_mul_mod_self_left]
  · rw [if_neg hk]
    have e : 256 ^ k = 256 ^ o * 256 ^ (k - o) := by
      rw [← Nat.pow_add]
      congr 1
      omega
    rw [e, ← Nat.div_div_eq_div_mul, Nat.add_mul_div_left _ _ (pos256 o), Nat.div_eq_of_lt ha, Nat.zero_add]
theorem byteAt_mod (w o k : Nat) (hk : k < o) : byteAt (w % 256 ^ o) k = byteAt w k := by
  have h := byteAt_join (a := w % 256 ^ o) (c := w / 256 ^ o) (Nat.mod_lt _ (pos256 o)) k
  rw [Nat.mod_add_div, if_pos hk] at h
  exact h.symm
theorem byteAt_div (w o k : Nat) : byteAt (w / 256 ^ o) k = byteAt w (o + k) := by
  unfold byteAt
  rw [Nat.div_div_eq_div_mul, ← Nat.pow_add]
def putIn (w o m v : Nat) : Nat := w % 256 ^ o + 256 ^ o * (v % 256 ^ m + 256 ^ m * (w / 256 ^ (o + m)))
theorem byteAt_putIn (w o m v k : Nat) : byteAt (putIn w o m v) k = if k < o then byteAt w k else if k < o + m then byteAt v (k - o) else byteAt w k := by
  unfold putIn
  rw [byteAt_join (Nat.mod_lt _ (pos256 o))]
  by_cases h1 : k < o
  · rw [if_pos h1, if_pos h1, byteAt_mod _ _ _ h1]
  · rw [if_neg h1, if_neg h1, byteAt_join (Nat.mod_lt _ (pos256 m))]
    by_cases h2 : k < o + m
    · rw [if_pos h2, if_pos (by omega), byteAt_mod _ _ _ (by omega)]
    · rw [if_neg h2, if_neg (by omega), byteAt_div]
      congr 1
      omega
theorem putIn_lt {w o m v : Nat} (h : w < 256 ^ 8) (ho : o + m ≤ 8) : putIn w o m v < 256 ^ 8 := by
  unfold putIn
  have h1 : w / 256 ^ (o + m) < 256 ^ (8 - (o + m)) := by
    rw [Nat.div_lt_iff_lt_mul (pos256 _), ← Nat.pow_add]
    rwa [show 8 - (o + m) + (o + m) = 8 by omega]
  have h2 := Nat.mod_lt w (pos256 o)
  have h3 := Nat.mod_lt v (pos256 m)
  have h4 : v % 256 ^ m + 256 ^ m * (w / 256 ^ (o + m)) < 256 ^ m * 256 ^ (8 - (o + m)) := by
    have : 256 ^ m * (w / 256 ^ (o + m)) + 256 ^ m ≤ 256 ^ m * 256 ^ (8 - (o + m)) := by
      rw [← Nat.mul_succ]
      exact Nat.mul_le_mul_left _ h1
    omega
  have h5 : w % 256 ^ o + 256 ^ o * (v % 256 ^ m + 256 ^ m * (w / 256 ^ (o + m))) < 256 ^ o * (256 ^ m * 256 ^ (8 - (o + m))) := by
    have : 256 ^ o * (v % 256 ^ m + 256 ^ m * (w / 256 ^ (o + m))) + 256 ^ o ≤ 256 ^ o * (256 ^ m * 256 ^ (8 - (o + m))) := by
      rw [← Nat.mul_succ]
      exact Nat.mul_le_mul_left _ h4
    omega
  rw [← Nat.pow_add, ← Nat.pow_add, show o + (m + (8 - (o + m))) = 8 by omega] at h5
  exact h5
theorem putIn_eq (w o m v : Nat) : putIn w o m v = w - w / 256 ^ o % 256 ^ m * 256 ^ o + v % 256 ^ m * 256 ^ o := by
  unfold putIn
  have e1 := Nat.mod_add_div w (256 ^ o)
  have e2 := Nat.mod_add_div (w / 256 ^ o) (256 ^ m)
  rw [Nat.div_div_eq_div_mul, ← Nat.pow_add] at e2
  rw [← e2, Nat.mul_add] at e1
  rw [Nat.mul_add, Nat.mul_comm (w / 256 ^ o % 256 ^ m), Nat.mul_comm (v % 256 ^ m)]
  omega
end Go.Proofs.Ytlmmipdgedfboaa.F
end
section
namespace Go.Proofs.Ytlmmipdgedfboaa.F
open Go.RowKit Go.Shelf Go.Proofs.YtlmmipdgedfboaaW.PrintWords Go.Proofs.YtlmmipdgedfboaaW.PrintLast Go.Proofs.YtlmmipdgedfboaaW.PrintMore
set_option linter.unusedVariables false
set_option linter.unusedSimpArgs false
abbrev SM := S53
abbrev SC := S55
abbrev wfM := wfS53
abbrev wfC := wfS55
abbrev mpV (x : SM) : Int := x.f1
abbrev clV (x : SC) : Int := x.f1
def wrd (m : List SC) (a : Int) : Int := look clK clV a m
def prt (l : List SM) (a : Int) : Int := look mpK mpV a l
def faultS (l : List SM) (a need : Int) : Int := if has mpK (a / 16384) l = true then (if Go.bits .and .i64 (prt l (a / 16384)) need = 0 then 2 else 0) else 1
def askS (l : List SM) (at_ need : Int) : Nat → Int → Int × Int
  | 0, _ => (0, 0)
  | r + 1, i => if (at_ + i) % 18446744073709551616 < at_ then (1, (at_ + i) % 18446744073709551616) else if faultS l ((at_ + i) % 18446744073709551616) need = 0 then askS l at_ need r (i + 1) else (faultS l ((at_ + i) % 18446744073709551616) need, (at_ + i) % 18446744073709551616)
theorem quo_u64 {a b : Int} (h0 : 0 ≤ a) (h1 : a < 18446744073709551616) (hb : 0 < b) : IntKind.u64.wrap (Int.tdiv a b) = a / b := by
  rw [u64w, Int.tdiv_eq_ediv_of_nonneg h0]
  have := Int.ediv_nonneg h0 (Int.le_of_lt hb)
  have h2 : a / b ≤ a := Int.ediv_le_self b h0
  omega
theorem placeFrom_has (a : Int) : ∀ (l : List SM) (i : Nat), decide (placeFrom a l i < 0) = !has mpK a l
  | [], _ => rfl
  | x :: l, i => by
    unfold placeFrom has
    rw [List.any_cons]
    split
    · rename_i h
      rw [decide_eq_true (show mpK x = a from h)]
      simp
    · rename_i h
      rw [decide_eq_false (show ¬ mpK x = a from h), Bool.false_or]
      exact placeFrom_has a l (i + 1)
theorem placeR_has (l : List SM) (a : Int) : decide (placeR l a < 0) = !has mpK a l := placeFrom_has a l 0
theorem low_hit {α : Type} {key val : α → Int} {l : List α} {p : Int} (hr : Rises key l) (h : has key p l = true) : ∃ hj : lowB key p l < l.length, key l[lowB key p l] = p ∧ val l[lowB key p l] = look key val p l := by
  have h1 := has_lowB key (k := p) hr
  have h2 := look_lowB key val (k := p) hr
  rw [h] at h1
  rcases Nat.lt_or_ge (lowB key p l) l.length with hlt | hge
  · refine ⟨hlt, ?_⟩
    rw [List.getElem?_eq_getElem hlt] at h1 h2
    dsimp only at h1 h2
    have h3 := of_decide_eq_true h1.symm
    rw [if_pos h3] at h2
    exact ⟨h3, h2.symm⟩
  · rw [List.getElem?_eq_none hge] at h1
    simp at h1
theorem host_ask_l0 (l : List SM) (m : List SC) (hl : l.length ≤ 1000000) (hr : Rises mpK l) {a : Int} (need : Int) (n : Nat) (hn : n ≤ 8) (h0 : 0 ≤ a) (h1 : a < 18446744073709551616) :
    ∀ (k i : Nat), i ≤ n → 2 * (n - i) < k → host_ask.l0 k a need (n : Int) (i : Int) l m = some (askS l a need (n - i) i)
  | 0, i, _, h => by omega
  | 1, i, hi, h => by
    unfold host_ask.l0
    obtain rfl : i = n := by omega
    rw [if_neg (by omega), Nat.sub_self]
    rfl
  | k + 2, i, hi, h => by
    unfold host_ask.l0
    by_cases hlt : i < n
    · have hw : IntKind.u64.wrap ((i : Int) + 1) = ((i + 1 : Nat) : Int) := by rw [u64w]; omega
      have hq : IntKind.u64.wrap (a + (i : Int)) = (a + (i : Int)) % 18446744073709551616 := u64w _
      have ih := host_ask_l0 l m hl hr need n hn h0 h1 k (i + 1) hlt (by omega)
      rw [if_pos (by omega), hq, quo_u64 (by omega) (by omega) (by omega), map_at_some m _ hl ((risesB_iff l).2 hr), Option.bind_some, show n - i = (n - (i + 1)) + 1 by omega]
      unfold askS
      generalize (a + (i : Int)) % 18446744073709551616 = b
      dsimp only
      unfold faultS
      cases hh : has mpK (b / 16384) l with
      | false =>
        rw [if_neg (show ¬ (false = true) by decide), if_neg (show ¬ (false = true) by decide)]
        unfold host_ask.j1
        rw [if_pos rfl]
        split
        · rfl
        · rw [if_neg (by decide)]
      | true =>
        rw [if_pos rfl, if_pos rfl]
        unfold host_ask.j1
        obtain ⟨hj, h3, h4⟩ := low_hit (val := mpV) hr hh
        by_cases hb : b < a
        · rw [decide_eq_true hb, if_pos rfl, if_pos hb]
          try rfl
        · rw [decide_eq_false hb, if_neg (show ¬ (false = true) by decide), if_neg hb, if_pos (by omega), if_pos (by omega), mp_getR hj]
          have h5 : (l[lowB mpK (b / 16384) l]).f1 = prt l (b / 16384) := h4
          rw [h5, hw, ih]
          by_cases hz : Go.bits .and .i64 (prt l (b / 16384)) need = 0
          · rw [if_pos hz, if_pos hz, if_neg (by decide)]
          · rw [if_neg hz, if_neg hz, if_pos rfl]
            rfl
    · obtain rfl : i = n := by omega
      rw [if_neg (by omega), Nat.sub_self]
      rfl
theorem host_ask_spec (l : List SM) (m : List SC) (hl : l.length ≤ 1000000) (hr : Rises mpK l) {a : Int} (need : Int) (n : Nat) (hn : n ≤ 8) (h0 : 0 ≤ a) (h1 : a < 18446744073709551616) (k : Nat) (hk : 2 * n < k) :
    host_ask.f k l m a (n : Int) need = some (askS l a need n 0) := by
  unfold host_ask.f
  rw [show IntKind.u64.wrap (n : Int) = (n : Int) by rw [u64w]; omega]
  exact host_ask_l0 l m hl hr need n hn h0 h1 k 0 (Nat.zero_le _) (by omega)
theorem host_word_spec (l : List SM) (m : List SC) (hm : m.length ≤ 1000000) (hr : Rises clK m) (a : Int) : host_word.f l m a = some (wrd m a) := by
  unfold host_word.f host_cellAt.f
  rw [if_pos ⟨hm, (risesB_iff m).2 hr⟩, Option.bind_some]
  dsimp only
  unfold wrd
  cases hh : has clK a m with
  | false =>
    rw [if_neg (by simp)]
    rw [look_none clK clV (fun x hx => ?_)]
    have := List.any_eq_false.1 hh x hx
    simpa using this
  | true =>
    obtain ⟨hj, h3, h4⟩ := low_hit (val := clV) hr hh
    rw [if_pos rfl, if_pos (by omega), if_pos (by omega), cl_getR hj]
    exact congrArg some h4
end Go.Proofs.Ytlmmipdgedfboaa.F
end
section
namespace Go.Proofs.Ytlmmipdgedfboaa.F
open Go.RowKit Go.Shelf Go.Proofs.YtlmmipdgedfboaaW.PrintWords Go.Proofs.YtlmmipdgedfboaaW.PrintLast Go.Proofs.YtlmmipdgedfboaaW.PrintMore
set_option linter.unusedVariables false
set_option linter.unusedSimpArgs false
theorem rises_of_next {α : Type} {key : α → Int} : ∀ {l : List α}, (∀ i (h : i + 1 < l.length), key (l[i]'(by omega)) < key l[i + 1]) → Rises key l
  | [], _ => trivial
  | [_], _ => trivial
  | x :: y :: l, h => ⟨h 0 (by simp), rises_of_next (l := y :: l) (fun i hi => h (i + 1) (by simpa using hi))⟩
theorem rises_prev {α : Type} {key : α → Int} (l : List α) : Rises key l ↔ ∀ i (h : i < l.length), prevGe key l i (key l[i]) = false := by
  constructor
  · intro hr i hi
    cases i with
    | zero => rfl
    | succ j =>
      rw [prevGe_succ key l j (by omega)]
      have := rises_get key hr j (j + 1) hi (by omega)
      exact decide_eq_false (by omega)
  · intro h
    refine rises_of_next (fun i hi => ?_)
    have h2 := h (i + 1) hi
    rw [prevGe_succ key l i (by omega)] at h2
    have := of_decide_eq_false h2
    omega
structure FitH (l : List SM) (m : List SC) : Prop where
  lr : Rises mpK l
  ln : l.length ≤ 64
  lp : ∀ x ∈ l, 0 ≤ x.f0 ∧ x.f0 < 1125899906842624 ∧ 0 ≤ x.f1 ∧ x.f1 ≤ 7
  mr : Rises clK m
  mn : m.length ≤ 131072
  mp : ∀ x ∈ m, 0 ≤ x.f0 ∧ x.f0 < 18446744073709551616 ∧ x.f0 % 8 = 0 ∧ 0 < x.f1 ∧ x.f1 < 18446744073709551616 ∧ has mpK (x.f0 / 16384) l = true
theorem tmod8 {a : Int} (h : 0 ≤ a) : (Int.tmod a 8 != 0) = !decide (a % 8 = 0) := by
  rw [Int.tmod_eq_emod_of_nonneg h]
  by_cases h2 : a % 8 = 0
  · rw [decide_eq_true h2, bne_eq_false_iff_eq.2 h2]
    rfl
  · rw [decide_eq_false h2, bne_iff_ne.2 h2]
    rfl
theorem badM_iff {l : List SM} (wl : ∀ x ∈ l, wfM x) (k : Nat) (hk : k < l.length) : badM l k = false ↔ (l[k].f0 < 1125899906842624 ∧ 0 ≤ l[k].f1 ∧ l[k].f1 ≤ 7) ∧ prevGe mpK l k (mpK l[k]) = false := by
  unfold badM
  rw [List.getElem?_eq_getElem hk]
  simp only [Bool.or_eq_false_iff, decide_eq_false_iff_not]
  constructor
  · rintro ⟨h1, h2, h3, h4⟩
    exact ⟨⟨by omega, by omega, by omega⟩, h4⟩
  · rintro ⟨⟨h1, h2, h3⟩, h4⟩
    exact ⟨by omega, by omega, by omega, h4⟩
theorem badC_iff {l : List SM} {m : List SC} (wm : ∀ x ∈ m, wfC x) (k : Nat) (hk : k < m.length) : badC l m k = false ↔ (m[k].f0 % 8 = 0 ∧ m[k].f1 ≠ 0 ∧ has mpK (m[k].f0 / 16384) l = true) ∧ prevGe clK m k (clK m[k]) = false := by
  have hw := wm _ (List.getElem_mem hk)
  have h0 : 0 ≤ m[k].f0 ∧ m[k].f0 ≤ 18446744073709551615 := hw.1
  unfold badC
  rw [List.getElem?_eq_getElem hk]
  dsimp only
  rw [tmod8 h0.1, quo_u64 h0.1 (by omega) (by omega), placeR_has]
  simp only [Bool.or_eq_false_iff, Bool.not_eq_false', decide_eq_true_eq, beq_eq_false_iff_ne]
  constructor
  · rintro ⟨h1, h2, h3, h4⟩
    exact ⟨⟨h1, h2, h4⟩, h3⟩
  · rintro ⟨⟨h1, h2, h3⟩, h4⟩
    exact ⟨h1, h2, h4, h3⟩
theorem not_any_range {n : Nat} {p : Nat → Bool} : (!((List.range n).any p)) = true ↔ ∀ k, k < n → p k = false := by
  rw [Bool.not_eq_true', List.any_eq_false]
  constructor
  · intro h k hk
    have := h k (List.mem_range.2 hk)
    simpa using this
  · intro h k hk
    rw [h k (List.mem_range.1 hk)]
    simp
theorem fitR_iff {l : List SM} {m : List SC} (wl : ∀ x ∈ l, wfM x) (wm : ∀ x ∈ m, wfC x) : fitR l m = true ↔ FitH l m := by
  unfold fitR
  simp only [Bool.and_eq_true, decide_eq_true_eq]
  rw [not_any_range, not_any_range]
  constructor
  · rintro ⟨h1, h2, h3, h4⟩
    have b1 := fun k hk => (badM_iff wl k hk).1 (h3 k hk)
    have b2 := fun k hk => (badC_iff wm k hk).1 (h4 k hk)
    refine ⟨(rises_prev l).2 (fun i hi => (b1 i hi).2), h1, fun x hx => ?_, (rises_prev m).2 (fun i hi => (b2 i hi).2), h2, fun x hx => ?_⟩
    · obtain ⟨i, hi, rfl⟩ := List.getElem_of_mem hx
      have hw : (0 ≤ l[i].f0 ∧ l[i].f0 ≤ 18446744073709551615) ∧ _ := wl _ hx
      have := (b1 i hi).1
      exact ⟨hw.1.1, this.1, this.2.1, this.2.2⟩
    · obtain ⟨i, hi, rfl⟩ := List.getElem_of_mem hx
      have hw : (0 ≤ m[i].f0 ∧ m[i].f0 ≤ 18446744073709551615) ∧ (0 ≤ m[i].f1 ∧ m[i].f1 ≤ 18446744073709551615) := wm _ hx
      have := (b2 i hi).1
      have h5 := this.2.1
      exact ⟨hw.1.1, by omega, this.1, by omega, by omega, this.2.2⟩
  · intro h
    refine ⟨h.ln, h.mn, fun k hk => (badM_iff wl k hk).2 ?_, fun k hk => (badC_iff wm k hk).2 ?_⟩
    · have := h.lp _ (List.getElem_mem hk)
      exact ⟨⟨this.2.1, this.2.2.1, this.2.2.2⟩, (rises_prev l).1 h.lr k hk⟩
    · have := h.mp _ (List.getElem_mem hk)
      exact ⟨⟨this.2.2.1, by omega, this.2.2.2.2.2⟩, (rises_prev m).1 h.mr k hk⟩
theorem and7_u64 {a : Int} (h0 : 0 ≤ a) (h1 : a ≤ 18446744073709551615) : Go.bits .and .u64 a 7 = a % 8 := mask64 3 (by decide) h0 h1
theorem FitH.wl {l : List SM} {m : List SC} (h : FitH l m) : ∀ x ∈ l, wfM x := fun x hx => by
  have := h.lp x hx
  exact ⟨⟨this.1, by omega⟩, ⟨by omega, by omega⟩⟩
theorem FitH.wm {l : List SM} {m : List SC} (h : FitH l m) : ∀ x ∈ m, wfC x := fun x hx => by
  have := h.mp x hx
  exact ⟨⟨this.1, by omega⟩, ⟨by omega, by omega⟩⟩
theorem FitH.fitR {l : List SM} {m : List SC} (h : FitH l m) : fitR l m = true := (fitR_iff h.wl h.wm).2 h
end Go.Proofs.Ytlmmipdgedfboaa.F
end
section
namespace Go.Proofs.Ytlmmipdgedfboaa.F
open Go.RowKit Go.Shelf Go.Proofs.YtlmmipdgedfboaaW.PrintWords Go.Proofs.YtlmmipdgedfboaaW.PrintLast Go.Proofs.YtlmmipdgedfboaaW.PrintMore
set_option linter.unusedVariables false
set_option linter.unusedSimpArgs false
structure HW (w W : World) (m c x y : Value) : Prop where
  bel : Below w.heap.size w W
  h : W.heap[w.heap.size]? = some (.cells #[m, c] 25 (0, 0))
  r : W.heap[w.heap.size + 1]? = some (.cells #[x, y] 25 (0, 0))
  s : w.heap.size + 2 ≤ W.heap.size
theorem HW.first (w : World) (m c x y : Value) : HW w ((w.alloc (.cells #[m, c] 25)).alloc (.cells #[x, y] 25)) m c x y := by
  have s1 : ∀ (W : World) o, (W.alloc o).heap.size = W.heap.size + 1 := fun W o => World.size_alloc W o
  have b1 : Below w.heap.size w (w.alloc (.cells #[m, c] 25)) := (Below.refl _ _).alloc (Nat.le_refl _) _
  have b2 := b1.alloc (by rw [s1]; omega) (.cells #[x, y] 25)
  have n1 := blk_new w (.cells #[m, c] 25)
  have n2 := blk_new (w.alloc (.cells #[m, c] 25)) (.cells #[x, y] 25)
  rw [s1] at n2
  exact ⟨b2, blk_alloc n1 _, n2, by rw [s1, s1]; omega⟩
theorem HW.step {w W W' : World} {m c x y : Value} (h : HW w W m c x y) (hb : Below (w.heap.size + 2) W W') : HW w W' m c x y :=
  ⟨h.bel.trans (hb.mono (by omega)), (hb.block _ (by omega)).trans h.h, (hb.block _ (by omega)).trans h.r, Nat.le_trans h.s hb.size⟩
theorem HW.below {w W W' : World} {m c x y : Value} (h : HW w W m c x y) (hb : Below W.heap.size W W') : HW w W' m c x y := h.step (hb.mono h.s)
theorem HW.set0 {w W : World} {m c x y : Value} (h : HW w W m c x y) (u : Value) : HW w (W.setCell ⟨w.heap.size, 0, none⟩ u) u c x y :=
  have hk : ∀ k, k ≠ w.heap.size → (W.setCell ⟨w.heap.size, 0, none⟩ u).heap[k]? = W.heap[k]? := fun k hk => Below.heap_setCell W _ u k hk
  ⟨h.bel.setCell (Nat.le_refl _) _, blk_put h.h 0 u rfl, (hk _ (by omega)).trans h.r, by simpa [World.setCell] using h.s⟩
theorem HW.set1 {w W : World} {m c x y : Value} (h : HW w W m c x y) (u : Value) : HW w (W.setCell ⟨w.heap.size, 1, none⟩ u) m u x y :=
  have hk : ∀ k, k ≠ w.heap.size → (W.setCell ⟨w.heap.size, 1, none⟩ u).heap[k]? = W.heap[k]? := fun k hk => Below.heap_setCell W _ u k hk
  ⟨h.bel.setCell (Nat.le_refl _) _, blk_put h.h 1 u rfl, (hk _ (by omega)).trans h.r, by simpa [World.setCell] using h.s⟩
theorem HW.setR {w W : World} {m c x y : Value} (h : HW w W m c x y) (u v : Value) : HW w ((W.setCell ⟨w.heap.size + 1, 0, none⟩ u).setCell ⟨w.heap.size + 1, 1, none⟩ v) m c u v :=
  have hk : ∀ k, k ≠ w.heap.size + 1 → ((W.setCell ⟨w.heap.size + 1, 0, none⟩ u).setCell ⟨w.heap.size + 1, 1, none⟩ v).heap[k]? = W.heap[k]? := fun k hk => (Below.heap_setCell _ _ v k hk).trans (Below.heap_setCell W _ u k hk)
  ⟨(h.bel.setCell (by show w.heap.size ≤ w.heap.size + 1; omega) _).setCell (by show w.heap.size ≤ w.heap.size + 1; omega) _, (hk _ (by omega)).trans h.h, blk_put (blk_put h.r 0 u rfl) 1 v rfl, by simpa [World.setCell] using h.s⟩
def clrStep (a1 a2 a : Int) (u : Int) (k : Nat) : Int := if withB (IntKind.u64.wrap (a + (k : Int))) a1 a2 = true then Go.bits .andNot .u64 u (IntKind.u64.wrap (255 * 2 ^ (8 * k))) else u
def clrW (a1 a2 a u : Int) (k : Nat) : Int := (List.range k).foldl (clrStep a1 a2 a) u
theorem clrW_succ (a1 a2 a u : Int) (k : Nat) : clrW a1 a2 a u (k + 1) = clrStep a1 a2 a (clrW a1 a2 a u k) k := by
  unfold clrW
  rw [List.range_succ, List.foldl_append]
  rfl
def clrC (a1 a2 : Int) (x : S55) : S55 := ⟨x.f0, clrW a1 a2 x.f0 x.f1 8⟩
end Go.Proofs.Ytlmmipdgedfboaa.F
end
section
namespace Go.Proofs.Ytlmmipdgedfboaa.F
open Go.RowKit Go.Shelf Go.Proofs.YtlmmipdgedfboaaW.PrintWords Go.Proofs.YtlmmipdgedfboaaW.PrintLast Go.Proofs.YtlmmipdgedfboaaW.PrintMore
set_option linter.unusedVariables false
set_option linter.unusedSimpArgs false
def wrongS (a n p : Int) : Bool := decide (n = 0 ∨ a ≥ 1125899906842624 ∨ n > 1125899906842624 - a ∨ p < 0 ∨ p > 7)
theorem withB_eq {p a n : Int} (p0 : 0 ≤ p) (p1 : p ≤ 18446744073709551615) (a0 : 0 ≤ a) : withB p a n = decide (a ≤ p ∧ p - a < n) := by
  unfold withB host_within.f
  rw [u64w]
  by_cases h : p ≥ a
  · rw [if_pos h, Option.getD_some]
    exact decide_eq_decide.2 (by omega)
  · rw [if_neg h, Option.getD_some, decide_eq_false (by omega)]
end Go.Proofs.Ytlmmipdgedfboaa.F
end
section
namespace Go.Proofs.Ytlmmipdgedfboaa.F
open Go.RowKit Go.Shelf Go.Proofs.YtlmmipdgedfboaaW.PrintWords Go.Proofs.YtlmmipdgedfboaaW.PrintLast Go.Proofs.YtlmmipdgedfboaaW.PrintMore
set_option linter.unusedVariables false
set_option linter.unusedSimpArgs false
theorem moreP_length (a p : Int) (n : Nat) : (moreP a n p).length = n := by
  unfold moreP
  rw [List.length_map, List.length_range]
theorem moreP_succ (a p : Int) (n : Nat) : moreP a (n + 1) p = moreP a n p ++ [⟨IntKind.u64.wrap (a + (n : Int)), p⟩] := by
  unfold moreP
  rw [List.range_succ, List.map_append]
  rfl
def mapS (l : List SM) (m : List SC) (a n p : Int) : List SM × List SC × Int :=
  if wrongS a n p = true then (l, m, 22) else if l.any (fun x => withB x.f0 a n) = true then (l, m, 17) else if n > 64 - (l.length : Int) then (l, m, 105) else (l.take (lowB mpK a l) ++ moreP a n.toNat p ++ l.drop (lowB mpK a l), m, 0)
theorem has_append {α : Type} {key : α → Int} (k : Int) (l m : List α) : has key k (l ++ m) = (has key k l || has key k m) := by
  unfold has
  rw [List.any_append]
theorem moreP_mem {a p : Int} {n : Nat} (a0 : 0 ≤ a) (h : a + (n : Int) ≤ 18446744073709551616) {x : SM} (hx : x ∈ moreP a n p) : ∃ i : Nat, i < n ∧ x.f0 = a + (i : Int) ∧ x.f1 = p := by
  unfold moreP at hx
  obtain ⟨i, hi, rfl⟩ := List.mem_map.1 hx
  have hi2 := List.mem_range.1 hi
  exact ⟨i, hi2, by show IntKind.u64.wrap _ = _; rw [u64w]; omega, rfl⟩
theorem moreP_rises {a p : Int} (a0 : 0 ≤ a) : ∀ {n : Nat}, a + (n : Int) ≤ 18446744073709551616 → Rises mpK (moreP a n p)
  | 0, _ => trivial
  | n + 1, h => by
    rw [moreP_succ]
    refine rises_append mpK (moreP_rises a0 (by omega)) trivial (fun x hx y hy => ?_)
    obtain ⟨i, hi, hx2, _⟩ := moreP_mem a0 (by omega) hx
    rw [List.mem_singleton] at hy
    subst hy
    show x.f0 < IntKind.u64.wrap _
    rw [u64w, hx2]
    omega
theorem mapS_keys {l : List SM} {a n : Int} (a0 : 0 ≤ a) (wl : ∀ x ∈ l, wfM x) (hany : l.any (fun x => withB x.f0 a n) = false) : ∀ x ∈ l, x.f0 < a ∨ a + n ≤ x.f0 := fun x hx => by
  have h1 := List.any_eq_false.1 hany x hx
  have hw2 : (0 ≤ x.f0 ∧ x.f0 ≤ 18446744073709551615) ∧ _ := wl _ hx
  rw [withB_eq hw2.1.1 hw2.1.2 a0] at h1
  simp at h1
  omega
theorem FitH.map {l : List SM} {m : List SC} (h : FitH l m) {a n p : Int} (a0 : 0 ≤ a) : FitH (mapS l m a n p).1 (mapS l m a n p).2.1 := by
  unfold mapS
  split
  · exact h
  rename_i hw
  split
  · exact h
  rename_i hany
  split
  · exact h
  rename_i hf
  have hw2 : ¬ (n = 0 ∨ a ≥ 1125899906842624 ∨ n > 1125899906842624 - a ∨ p < 0 ∨ p > 7) := by
    unfold wrongS at hw
    simpa only [decide_eq_true_eq] using hw
  have hk := mapS_keys a0 h.wl (Bool.eq_false_iff.2 hany)
  by_cases n0 : 0 < n
  rotate_left
  · have e0 : n.toNat = 0 := by omega
    dsimp only
    rw [e0, show moreP a 0 p = [] from rfl, List.append_nil, List.take_append_drop]
    exact h
  have hn : ((n.toNat : Nat) : Int) = n := by omega
  have hd : ∀ y ∈ l.drop (lowB mpK a l), a + n ≤ y.f0 := fun y hy => by
    have h1 := drop_lowB mpK a h.lr y hy
    have h2 := hk y (List.mem_of_mem_drop hy)
    have h3 : mpK y = y.f0 := rfl
    omega
  refine ⟨?_, ?_, fun x hx => ?_, h.mr, h.mn, fun x hx => ?_⟩
  · refine rises_append mpK (rises_append mpK (rises_left mpK (m := l.drop (lowB mpK a l)) (by rw [List.take_append_drop]; exact h.lr)) (moreP_rises a0 (by omega)) (fun x hx y hy => ?_)) (rises_right mpK (l := l.take (lowB mpK a l)) (by rw [List.take_append_drop]; exact h.lr)) (fun x hx y hy => ?_)
    · have h1 := take_lowB mpK a l x hx
      obtain ⟨i, hi, h2, _⟩ := moreP_mem a0 (by omega) hy
      have h3 : mpK y = y.f0 := rfl
      omega
    · have h1 := hd y hy
      have h3 : mpK y = y.f0 := rfl
      rcases List.mem_append.1 hx with hx | hx
      · have h2 := take_lowB mpK a l x hx
        omega
      · obtain ⟨i, hi, h2, _⟩ := moreP_mem a0 (by omega) hx
        have h4 : mpK x = x.f0 := rfl
        omega
  · have hL := lowB_le mpK a l
    simp only [List.length_append, moreP_length, List.length_take, List.length_drop]
    omega
  · rcases List.mem_append.1 hx with hx | hx
    · rcases List.mem_append.1 hx with hx | hx
      · exact h.lp x (List.mem_of_mem_take hx)
      · obtain ⟨i, hi, h2, h3⟩ := moreP_mem a0 (by omega) hx
        rw [h2, h3]
        omega
    · exact h.lp x (List.mem_of_mem_drop hx)
  · have h1 := h.mp x hx
    refine ⟨h1.1, h1.2.1, h1.2.2.1, h1.2.2.2.1, h1.2.2.2.2.1, ?_⟩
    have h2 := h1.2.2.2.2.2
    rw [← List.take_append_drop (lowB mpK a l) l, has_append] at h2
    rw [has_append, has_append]
    revert h2
    cases has mpK (x.f0 / 16384) (l.take (lowB mpK a l)) <;> cases has mpK (x.f0 / 16384) (l.drop (lowB mpK a l)) <;> simp
end Go.Proofs.Ytlmmipdgedfboaa.F
end
section
namespace Go.Proofs.Ytlmmipdgedfboaa.F
open Go.RowKit Go.Shelf Go.Proofs.YtlmmipdgedfboaaW.PrintWords Go.Proofs.YtlmmipdgedfboaaW.PrintLast Go.Proofs.YtlmmipdgedfboaaW.PrintMore
set_option linter.unusedVariables false
set_option linter.unusedSimpArgs false
theorem p256 (o : Nat) : (2 : Nat) ^ (8 * o) = 256 ^ o := by rw [Nat.pow_mul]
theorem p256_8 : (256 : Nat) ^ 8 = 18446744073709551616 := by decide
theorem p256_le {o : Nat} (h : o ≤ 8) : 256 ^ o ≤ (18446744073709551616 : Nat) := by
  rw [← p256_8]
  exact Nat.pow_le_pow_right (by decide) h
theorem clr64 {w o m : Nat} (hw : w < 256 ^ 8) (ho : o + m ≤ 8) : Go.bits .andNot .u64 (w : Int) (((256 ^ m - 1) * 256 ^ o : Nat) : Int) = ((putIn w o m 0 : Nat) : Int) := by
  have hp : 256 ^ m * 256 ^ o ≤ (18446744073709551616 : Nat) := by rw [← Nat.pow_add]; exact p256_le (by omega)
  have hpm := pos256 m
  have hpo := pos256 o
  have hM : (256 ^ m - 1) * 256 ^ o < 2 ^ 64 := by
    have : (256 ^ m - 1) * 256 ^ o < 256 ^ m * 256 ^ o := Nat.mul_lt_mul_of_pos_right (by omega) hpo
    omega
  have hw2 : w < 2 ^ 64 := by rw [p256_8] at hw; exact hw
  rw [andNot64 w _ hw2 hM]
  have e : w &&& ((256 ^ m - 1) * 256 ^ o) = w / 256 ^ o % 256 ^ m * 256 ^ o := by
    rw [← p256 m, ← p256 o, nat_mask_at]
  have hle : w &&& ((256 ^ m - 1) * 256 ^ o) ≤ w := Nat.and_le_left
  rw [putIn_eq, ← e, Nat.zero_mod, Nat.zero_mul]
  omega
structure CellsH (m : List SC) : Prop where
  mr : Rises clK m
  mp : ∀ x ∈ m, 0 ≤ x.f0 ∧ x.f0 < 18446744073709551616 ∧ x.f0 % 8 = 0 ∧ 0 < x.f1 ∧ x.f1 < 18446744073709551616
theorem FitH.cells {l : List SM} {m : List SC} (h : FitH l m) : CellsH m := ⟨h.mr, fun x hx => by
  have := h.mp x hx
  exact ⟨this.1, this.2.1, this.2.2.1, this.2.2.2.1, this.2.2.2.2.1⟩⟩
theorem look_bd {m : List SC} {b : Int} (hb : 0 < b) (h : ∀ x ∈ m, 0 ≤ x.f1 ∧ x.f1 < b) (a : Int) : 0 ≤ wrd m a ∧ wrd m a < b := by
  unfold wrd
  induction m with
  | nil => exact ⟨Int.le_refl _, hb⟩
  | cons x m ih =>
    unfold look
    split
    · exact h x List.mem_cons_self
    · exact ih (fun y hy => h y (List.mem_cons_of_mem _ hy))
theorem CellsH.bd {m : List SC} (h : CellsH m) (a : Int) : 0 ≤ wrd m a ∧ wrd m a < 18446744073709551616 := look_bd (by omega) (fun x hx => by have := h.mp x hx; omega) a
theorem CellsH.off {m : List SC} (h : CellsH m) {a : Int} (ha : a % 8 ≠ 0) : wrd m a = 0 := look_none clK clV (fun x hx e => ha (by rw [← e]; exact (h.mp x hx).2.2.1))
def wN (m : List SC) (a : Nat) : Nat := (wrd m (a : Int)).toNat
theorem CellsH.wN_lt {m : List SC} (h : CellsH m) (a : Nat) : wN m a < 256 ^ 8 := by
  have := h.bd (a : Int)
  unfold wN
  rw [p256_8]
  omega
theorem CellsH.wN_eq {m : List SC} (h : CellsH m) (a : Nat) : wrd m (a : Int) = ((wN m a : Nat) : Int) := by
  have := h.bd (a : Int)
  unfold wN
  omega
theorem has_mem {α : Type} {key : α → Int} {k : Int} {l : List α} : has key k l = true ↔ ∃ x ∈ l, key x = k := by
  unfold has
  rw [List.any_eq_true]
  constructor
  · rintro ⟨x, hx, h⟩
    exact ⟨x, hx, of_decide_eq_true h⟩
  · rintro ⟨x, hx, h⟩
    exact ⟨x, hx, decide_eq_true h⟩
def setF (a u : Int) (m : List SC) : List SC :=
  if u = 0 then m.filter (fun x => !decide (x.f0 = a)) else m.take (lowB clK a m) ++ [⟨a, u⟩] ++ (m.drop (lowB clK a m)).filter (fun x => !decide (x.f0 = a))
theorem drop_ne {m : List SC} {a : Int} (hr : Rises clK m) : (m.drop (lowB clK a m)).filter (fun x => !decide (x.f0 = a)) = if has clK a m = true then m.drop (lowB clK a m + 1) else m.drop (lowB clK a m) := by
  split
  · rename_i h
    obtain ⟨hj, h1, _⟩ := low_hit (val := clV) hr h
    rw [List.drop_eq_getElem_cons hj, List.filter_cons, if_neg (by simp; exact h1), List.filter_eq_self]
    intro x hx
    have h2 : Rises clK (m.drop (lowB clK a m)) := rises_right clK (l := m.take (lowB clK a m)) (by rw [List.take_append_drop]; exact hr)
    rw [List.drop_eq_getElem_cons hj] at h2
    have h3 := rises_head clK h2 x hx
    have h4 : clK x = x.f0 := rfl
    simp
    omega
  · rename_i h
    rw [List.filter_eq_self]
    intro x hx
    have : x.f0 ≠ a := fun e => h (has_mem.2 ⟨x, List.mem_of_mem_drop hx, e⟩)
    simpa using this
theorem take_ne {m : List SC} {a : Int} : (m.take (lowB clK a m)).filter (fun x => !decide (x.f0 = a)) = m.take (lowB clK a m) := by
  rw [List.filter_eq_self]
  intro x hx
  have h1 := take_lowB clK a m x hx
  have h4 : clK x = x.f0 := rfl
  simp
  omega
theorem setL_setF {m : List SC} (hr : Rises clK m) (a u : Int) : setL a u m = setF a u m := by
  unfold setL setF
  by_cases hu : u = 0
  · rw [if_pos hu, if_pos hu, if_pos hu]
    conv => rhs; rw [← List.take_append_drop (lowB clK a m) m]
    rw [List.filter_append, take_ne, drop_ne hr]
    split
    · rw [List.eraseIdx_eq_take_drop_succ]
    · rw [List.take_append_drop]
  · rw [if_neg hu, if_neg hu, if_neg hu, drop_ne hr]
    by_cases h : has clK a m = true
    · obtain ⟨hj, h1, _⟩ := low_hit (val := clV) hr h
      rw [if_pos h, if_pos h, List.set_eq_take_append_cons_drop, if_pos hj, List.append_assoc]
      rfl
    · rw [if_neg h, if_neg h]
theorem mem_setF {m : List SC} {a u : Int} {x : SC} (h : x ∈ setF a u m) : x ∈ m ∨ (x = ⟨a, u⟩ ∧ u ≠ 0) := by
  unfold setF at h
  split at h
  · exact Or.inl (List.mem_filter.1 h).1
  · rename_i hu
    rcases List.mem_append.1 h with h | h
    · rcases List.mem_append.1 h with h | h
      · exact Or.inl (List.mem_of_mem_take h)
      · exact Or.inr ⟨List.mem_singleton.1 h, hu⟩
    · exact Or.inl (List.mem_of_mem_drop (List.mem_filter.1 h).1)
theorem CellsH.set {m : List SC} (h : CellsH m) {a u : Int} (a0 : 0 ≤ a) (a1 : a < 18446744073709551616) (a8 : a % 8 = 0) (u0 : 0 ≤ u) (u1 : u < 18446744073709551616) : CellsH (setL a u m) := by
  refine ⟨setL_rises h.mr a u, fun x hx => ?_⟩
  rw [setL_setF h.mr] at hx
  rcases mem_setF hx with h1 | ⟨rfl, h2⟩
  · exact h.mp x h1
  · exact ⟨a0, a1, a8, by dsimp only; omega, u1⟩
end Go.Proofs.Ytlmmipdgedfboaa.F
end
section
namespace Go.Proofs.Ytlmmipdgedfboaa.F
open Go.RowKit Go.Shelf Go.Proofs.YtlmmipdgedfboaaW.PrintWords Go.Proofs.YtlmmipdgedfboaaW.PrintLast Go.Proofs.YtlmmipdgedfboaaW.PrintMore
set_option linter.unusedVariables false
set_option linter.unusedSimpArgs false
def pk (m : List SC) (a : Nat) : Nat := byteAt (wN m (a - a % 8)) (a % 8)
theorem pk_at (m : List SC) {a k : Nat} (ha : a % 8 = 0) (hk : k < 8) : pk m (a + k) = byteAt (wN m a) k := by
  unfold pk
  rw [show (a + k) % 8 = k by omega, show a + k - k = a by omega]
theorem shr_bytes (w o : Nat) (ho : o ≤ 8) : shr .u64 (w : Int) ((8 * o : Nat) : Int) = ((w / 256 ^ o : Nat) : Int) := by
  unfold shr
  rw [Int.toNat_natCast, Nat.min_eq_left (show 8 * o ≤ IntKind.u64.bits by show 8 * o ≤ 64; omega), ← p256]
  simp
theorem shl_bytes (w o : Nat) (ho : o ≤ 8) : shl .u64 (w : Int) ((8 * o : Nat) : Int) = ((w * 256 ^ o % 256 ^ 8 : Nat) : Int) := by
  unfold shl
  rw [Int.toNat_natCast, Nat.min_eq_left (show 8 * o ≤ IntKind.u64.bits by show 8 * o ≤ 64; omega), u64w, p256_8, ← p256]
  simp
def pokeN (m : List SC) (a b : Nat) : List SC := setL ((a - a % 8 : Nat) : Int) ((putIn (wN m (a - a % 8)) (a % 8) 1 b : Nat) : Int) m
theorem CellsH.putW {m : List SC} (h : CellsH m) {a o n v : Nat} (ha : a < 18446744073709551616) (h8 : a % 8 = 0) (ho : o + n ≤ 8) : CellsH (setL (a : Int) ((putIn (wN m a) o n v : Nat) : Int) m) := by
  have := putIn_lt (v := v) (h.wN_lt a) ho
  rw [p256_8] at this
  exact h.set (by omega) (by omega) (by omega) (by omega) (by omega)
theorem CellsH.poke {m : List SC} (h : CellsH m) {a b : Nat} (ha : a < 18446744073709551616) : CellsH (pokeN m a b) := h.putW (by omega) (by omega) (by omega)
def pokes : List SC → Nat → Nat → Nat → List SC
  | m, _, _, 0 => m
  | m, a, v, n + 1 => pokes (pokeN m a (v % 256)) (a + 1) (v / 256) n
theorem CellsH.pokes : ∀ {n : Nat} {m : List SC} (h : CellsH m) {a v : Nat}, a + n ≤ 18446744073709551616 → CellsH (pokes m a v n)
  | 0, _, h, _, _, _ => h
  | n + 1, m, h, a, v, ha => CellsH.pokes (h.poke (by omega)) (by omega)
theorem pokeN_length (m : List SC) (a b : Nat) : (pokeN m a b).length ≤ m.length + 1 := setL_length _ _ _
theorem askS_ok {l : List SM} {a need : Int} (a0 : 0 ≤ a) (a1 : a < 18446744073709551616) : ∀ {r : Nat} {i : Int}, 0 ≤ i → i + (r : Int) ≤ 8 → (askS l a need r i).1 = 0 → askS l a need r i = (0, 0) ∧ ∀ j : Int, i ≤ j → j < i + r → a + j < 18446744073709551616 ∧ faultS l (a + j) need = 0
  | 0, i, _, _, _ => ⟨rfl, fun j h1 h2 => by omega⟩
  | r + 1, i, i0, hb, h => by
    unfold askS at h ⊢
    by_cases h1 : (a + i) % 18446744073709551616 < a
    · rw [if_pos h1] at h
      cases h
    · rw [if_neg h1] at h ⊢
      have e : (a + i) % 18446744073709551616 = a + i := by omega
      rw [e] at h ⊢
      by_cases h2 : faultS l (a + i) need = 0
      · rw [if_pos h2] at h ⊢
        obtain ⟨h3, h4⟩ := askS_ok a0 a1 (by omega) (by omega) h
        refine ⟨h3, fun j j1 j2 => ?_⟩
        by_cases hj : j = i
        · subst hj
          exact ⟨by omega, h2⟩
        · exact h4 j (by omega) (by omega)
      · rw [if_neg h2] at h
        exact absurd h h2
def storeS (l : List SM) (m : List SC) (a n v : Int) : List SM × List SC × Int × Int :=
  if n < 1 ∨ n > 8 then (l, m, 0, 0) else if (askS l a 2 n.toNat 0).1 = 0 then (l, pokes m a.toNat v.toNat n.toNat, 0, 0) else (l, m, (askS l a 2 n.toNat 0).1, (askS l a 2 n.toNat 0).2)
end Go.Proofs.Ytlmmipdgedfboaa.F
end
section
namespace Go.Proofs.Ytlmmipdgedfboaa.F
open Go.RowKit Go.Shelf Go.Proofs.YtlmmipdgedfboaaW.PrintWords Go.Proofs.YtlmmipdgedfboaaW.PrintLast Go.Proofs.YtlmmipdgedfboaaW.PrintMore
set_option linter.unusedVariables false
set_option linter.unusedSimpArgs false
def loadS (l : List SM) (m : List SC) (a n : Int) : Int × Int × Int :=
  if n < 1 ∨ n > 8 then (0, 0, 0) else if (askS l a 1 n.toNat 0).1 = 0 then (((leN n.toNat (fun i => pk m (a.toNat + i)) : Nat) : Int), 0, 0) else (0, (askS l a 1 n.toNat 0).1, (askS l a 1 n.toNat 0).2)
theorem andNot7_u64 {a : Nat} (h : a < 18446744073709551616) : Go.bits .andNot .u64 (a : Int) 7 = ((a - a % 8 : Nat) : Int) := by
  have := without64 (x := (a : Int)) 3 0 (by decide) (by omega) (by omega)
  rw [show ((2 : Int) ^ 3 - 1) * 2 ^ 0 = 7 by decide] at this
  rw [this]
  omega
theorem and7_off {a : Nat} (h : a < 18446744073709551616) : IntKind.u64.wrap (8 * Go.bits .and .u64 (a : Int) 7) = ((8 * (a % 8) : Nat) : Int) := by
  rw [and7_u64 (by omega) (by omega), u64w]
  omega
theorem mask_bytes {n : Nat} (h1 : 1 ≤ n) (h8 : n ≤ 8) : IntKind.u64.wrap (IntKind.u64.wrap (shl .u64 1 (wrap64 (wrap64 (8 * (n : Int)) - 1)) * 2) - 1) = ((256 ^ n - 1 : Nat) : Int) := by
  rcases (by omega : n = 1 ∨ n = 2 ∨ n = 3 ∨ n = 4 ∨ n = 5 ∨ n = 6 ∨ n = 7 ∨ n = 8) with rfl | rfl | rfl | rfl | rfl | rfl | rfl | rfl <;> decide +kernel
theorem and_mask_bytes {v n : Nat} (hv : v < 256 ^ 8) (h8 : n ≤ 8) : Go.bits .and .u64 (v : Int) ((256 ^ n - 1 : Nat) : Int) = ((v % 256 ^ n : Nat) : Int) := by
  rw [p256_8] at hv
  have hp := p256_le h8
  have hpos := pos256 n
  rw [(bits_nat64 v (256 ^ n - 1) (by omega) (by omega)).1, ← p256, Nat.and_two_pow_sub_one_eq_mod]
def joinN (w0 w1 o : Nat) : Nat := w0 / 256 ^ o + 256 ^ (8 - o) * (w1 % 256 ^ o)
theorem joinN_lt {w0 w1 o : Nat} (h0 : w0 < 256 ^ 8) (ho : o ≤ 8) : joinN w0 w1 o < 256 ^ 8 := by
  unfold joinN
  have h1 : w0 / 256 ^ o < 256 ^ (8 - o) := by
    rw [Nat.div_lt_iff_lt_mul (pos256 _), ← Nat.pow_add]
    rwa [show 8 - o + o = 8 by omega]
  have h2 := Nat.mod_lt w1 (pos256 o)
  have h3 : 256 ^ (8 - o) * (w1 % 256 ^ o) + 256 ^ (8 - o) ≤ 256 ^ (8 - o) * 256 ^ o := by
    rw [← Nat.mul_succ]
    exact Nat.mul_le_mul_left _ h2
  rw [← Nat.pow_add, show 8 - o + o = 8 by omega] at h3
  omega
theorem byteAt_joinN {w0 w1 o : Nat} (h0 : w0 < 256 ^ 8) (ho : o ≤ 8) (k : Nat) (hk : k < 8) : byteAt (joinN w0 w1 o) k = if k < 8 - o then byteAt w0 (o + k) else byteAt w1 (k - (8 - o)) := by
  have h1 : w0 / 256 ^ o < 256 ^ (8 - o) := by
    rw [Nat.div_lt_iff_lt_mul (pos256 _), ← Nat.pow_add]
    rwa [show 8 - o + o = 8 by omega]
  unfold joinN
  rw [byteAt_join h1, byteAt_div]
  by_cases h : k < 8 - o
  · rw [if_pos h, if_pos h]
  · rw [if_neg h, if_neg h, byteAt_mod _ _ _ (by omega)]
theorem or_join {w0 w1 o : Nat} (h0 : w0 < 256 ^ 8) (h1 : w1 < 256 ^ 8) (o0 : 0 < o) (ho : o ≤ 8) : Go.bits .or .u64 ((w0 / 256 ^ o : Nat) : Int) (shl .u64 (w1 : Int) ((8 * (8 - o) : Nat) : Int)) = ((joinN w0 w1 o : Nat) : Int) := by
  have e : w1 * 256 ^ (8 - o) % 256 ^ 8 = 256 ^ (8 - o) * (w1 % 256 ^ o) := by
    have h8 : (256 : Nat) ^ 8 = 256 ^ (8 - o) * 256 ^ o := by rw [← Nat.pow_add]; congr 1; omega
    rw [h8, Nat.mul_comm w1, Nat.mul_mod_mul_left]
  rw [shl_bytes _ _ (by omega), e]
  have hj := joinN_lt (w1 := w1) h0 ho
  unfold joinN at hj ⊢
  have hlt : w0 / 256 ^ o < 256 ^ (8 - o) := by
    rw [Nat.div_lt_iff_lt_mul (pos256 _), ← Nat.pow_add]
    rwa [show 8 - o + o = 8 by omega]
  rw [p256_8] at hj
  have hpe : ((2 : Int) ^ (8 * (8 - o))) = ((256 ^ (8 - o) : Nat) : Int) := by
    rw [← p256]
    simp
  have hm0 : ((256 ^ (8 - o) * (w1 % 256 ^ o) : Nat) : Int) % 2 ^ (8 * (8 - o)) = 0 := by rw [hpe, Int.natCast_mul]; exact Int.mul_emod_right _ _
  generalize 256 ^ (8 - o) * (w1 % 256 ^ o) = Q at hm0 hj ⊢
  generalize w0 / 256 ^ o = R at hlt hj ⊢
  rw [bits_or_comm, join64 (8 * (8 - o)) (by omega) (by omega) hm0 (by omega) (by rw [hpe]; omega) (by omega)]
  omega
theorem load_bytes {m : List SC} (h : CellsH m) {a n : Nat} (h8 : n ≤ 8) : joinN (wN m (a - a % 8)) (if a % 8 = 0 then 0 else wN m (a - a % 8 + 8)) (a % 8) % 256 ^ n = leN n (fun i => pk m (a + i)) := by
  have ho : a % 8 < 8 := Nat.mod_lt _ (by decide)
  have e := leN_bytes n 0 (joinN (wN m (a - a % 8)) (if a % 8 = 0 then 0 else wN m (a - a % 8 + 8)) (a % 8))
  rw [Nat.pow_zero, Nat.div_one] at e
  rw [← e]
  refine leN_congr (fun i hi => ?_)
  rw [Nat.zero_add, byteAt_joinN (h.wN_lt _) (by omega) i (by omega)]
  by_cases hc : i < 8 - a % 8
  · rw [if_pos hc, ← pk_at m (a := a - a % 8) (by omega) (by omega)]
    congr 1
    omega
  · rw [if_neg hc, if_neg (by omega), ← pk_at m (a := a - a % 8 + 8) (by omega) (by omega)]
    congr 1
    omega
theorem host_Load_spec (l : List SM) {m : List SC} (h : CellsH m) (hr : Rises mpK l) (hl : l.length ≤ 1000000) (hm : m.length ≤ 1000000) {a n : Int} (a0 : 0 ≤ a) (a1 : a < 18446744073709551616) (k : Nat) (hk : 40 < k) :
    host_Load.f k l m a n = some (loadS l m a n) := by
  obtain ⟨k, rfl⟩ : ∃ q, k = q + 1 := ⟨k - 1, by omega⟩
  unfold host_Load.f loadS
  by_cases h1 : n < 1
  · rw [if_pos h1, if_pos (Or.inl h1)]
    rfl
  rw [if_neg h1]
  by_cases h2 : n > 8
  · rw [decide_eq_true h2, if_pos (Or.inr h2)]
    rfl
  obtain ⟨N, rfl⟩ : ∃ N : Nat, n = (N : Int) := ⟨n.toNat, by omega⟩
  obtain ⟨A, rfl⟩ : ∃ N : Nat, a = (N : Int) := ⟨a.toNat, by omega⟩
  have a1' : A < 18446744073709551616 := by omega
  rw [decide_eq_false h2, host_Load.j0, if_neg (show ¬ (false = true) by decide), if_neg (by omega), host_ask_spec l m hl hr 1 N (by omega) a0 a1 k (by omega), Option.bind_some, Int.toNat_natCast, Int.toNat_natCast]
  by_cases h3 : (askS l (A : Int) 1 N 0).1 = 0
  · rw [if_pos h3, if_pos h3]
    obtain ⟨_, h4⟩ := askS_ok a0 a1 (Int.le_refl 0) (by omega) h3
    have h5 := (h4 ((N : Int) - 1) (by omega) (by omega)).1
    have ho : A % 8 < 8 := Nat.mod_lt _ (by decide)
    have hw : wrap64 (wrap64 (8 * (N : Int)) - 1) = 8 * (N : Int) - 1 := by unfold wrap64; omega
    have hmk := mask_bytes (n := N) (by omega) (by omega)
    rw [andNot7_u64 a1', and7_off a1', host_word_spec l m hm h.mr, Option.bind_some, if_pos (show (0 : Int) ≤ ((8 * (A % 8) : Nat) : Int) by omega), h.wN_eq, shr_bytes _ _ (by omega), hmk]
    have hfin := load_bytes h (a := A) (n := N) (by omega)
    by_cases hs : ((8 * (A % 8) : Nat) : Int) > 0
    · have e8 : IntKind.u64.wrap (((A - A % 8 : Nat) : Int) + 8) = ((A - A % 8 + 8 : Nat) : Int) ∨ (A - A % 8 + 8 = 18446744073709551616 ∧ IntKind.u64.wrap (((A - A % 8 : Nat) : Int) + 8) = 0) := by
        rw [u64w]
        omega
      have es : IntKind.u64.wrap (64 - ((8 * (A % 8) : Nat) : Int)) = ((8 * (8 - A % 8) : Nat) : Int) := by rw [u64w]; omega
      rw [if_pos hs, host_word_spec l m hm h.mr, Option.bind_some, es, if_pos (show (0 : Int) ≤ ((8 * (8 - A % 8) : Nat) : Int) by omega), hw, if_pos (show (0 : Int) ≤ 8 * (N : Int) - 1 by omega)]
      rw [if_neg (show ¬ A % 8 = 0 by omega)] at hfin
      rcases e8 with e8 | ⟨e9, e8⟩
      · rw [e8, h.wN_eq, or_join (h.wN_lt _) (h.wN_lt _) (by omega) (by omega), and_mask_bytes (joinN_lt (h.wN_lt _) (by omega)) (by omega), hfin]
      · rw [e8, show (0 : Int) = ((0 : Nat) : Int) from rfl, h.wN_eq, or_join (h.wN_lt _) (h.wN_lt _) (by omega) (by omega), and_mask_bytes (joinN_lt (h.wN_lt _) (by omega)) (by omega)]
        have hN : N ≤ 8 - A % 8 := by omega
        congr 3
        rw [← hfin]
        have b : ∀ w1, joinN (wN m (A - A % 8)) w1 (A % 8) % 256 ^ N = leN N (fun i => byteAt (wN m (A - A % 8)) (A % 8 + i)) := fun w1 => by
          have e := leN_bytes N 0 (joinN (wN m (A - A % 8)) w1 (A % 8))
          rw [Nat.pow_zero, Nat.div_one] at e
          rw [← e]
          refine leN_congr (fun i hi => ?_)
          rw [Nat.zero_add, byteAt_joinN (h.wN_lt _) (by omega) i (by omega), if_pos (by omega)]
        rw [b, b]
    · have hz : A % 8 = 0 := by omega
      rw [if_neg hs, hw, if_pos (show (0 : Int) ≤ 8 * (N : Int) - 1 by omega)]
      rw [if_pos hz] at hfin
      unfold joinN at hfin
      rw [Nat.zero_mod, Nat.mul_zero, Nat.add_zero] at hfin
      rw [and_mask_bytes (by have := h.wN_lt (A - A % 8); have := Nat.div_le_self (wN m (A - A % 8)) (256 ^ (A % 8)); omega) (by omega), hfin]
  · rw [if_neg h3, if_neg h3]
end Go.Proofs.Ytlmmipdgedfboaa.F
end
section
namespace Go.Proofs.Ytlmmipdgedfboaa.F
open Go.RowKit Go.Shelf Go.Proofs.YtlmmipdgedfboaaW.PrintWords Go.Proofs.YtlmmipdgedfboaaW.PrintLast Go.Proofs.YtlmmipdgedfboaaW.PrintMore
set_option linter.unusedVariables false
set_option linter.unusedSimpArgs false
theorem faultS_has {l : List SM} {a need : Int} (h : faultS l a need = 0) : has mpK (a / 16384) l = true := by
  unfold faultS at h
  by_cases h1 : has mpK (a / 16384) l = true
  · exact h1
  · rw [if_neg h1] at h
    omega
theorem mem_setL {m : List SC} (hr : Rises clK m) {a u : Int} {x : SC} (h : x ∈ setL a u m) : x ∈ m ∨ (x = ⟨a, u⟩ ∧ u ≠ 0) := by
  rw [setL_setF hr] at h
  exact mem_setF h
theorem pokes_length : ∀ {n : Nat} (m : List SC) (a v : Nat), (pokes m a v n).length ≤ m.length + n
  | 0, m, _, _ => Nat.le_refl _
  | n + 1, m, a, v => by
    have h1 := pokes_length (n := n) (pokeN m a (v % 256)) (a + 1) (v / 256)
    have h2 := pokeN_length m a (v % 256)
    unfold pokes
    omega
theorem mem_pokes {x : SC} : ∀ {n : Nat} {m : List SC} (h : CellsH m) {a v : Nat}, a + n ≤ 18446744073709551616 → x ∈ pokes m a v n → x ∈ m ∨ ∃ j : Nat, j < n ∧ x.f0 = ((a + j - (a + j) % 8 : Nat) : Int)
  | 0, m, h, a, v, _, hx => Or.inl hx
  | n + 1, m, h, a, v, ha, hx => by
    unfold pokes at hx
    rcases mem_pokes (h.poke (by omega)) (by omega) hx with h1 | ⟨j, hj, h1⟩
    · rcases mem_setL h.mr h1 with h2 | ⟨h2, _⟩
      · exact Or.inl h2
      · exact Or.inr ⟨0, by omega, by rw [h2]; rfl⟩
    · exact Or.inr ⟨j + 1, by omega, by rw [h1]; congr 1; omega⟩
theorem FitH.pokes {l : List SM} {m : List SC} (h : FitH l m) {a n v : Nat} (hn : m.length + n ≤ 131072) (ha : a + n ≤ 18446744073709551616) (hp : ∀ j, j < n → has mpK (((a + j : Nat) : Int) / 16384) l = true) : FitH l (pokes m a v n) := by
  have hc := CellsH.pokes h.cells (v := v) ha
  have hlen := pokes_length (n := n) m a v
  refine ⟨h.lr, h.ln, h.lp, hc.mr, by omega, fun x hx => ?_⟩
  have h1 := hc.mp x hx
  refine ⟨h1.1, h1.2.1, h1.2.2.1, h1.2.2.2.1, h1.2.2.2.2, ?_⟩
  rcases mem_pokes h.cells ha hx with h2 | ⟨j, hj, h2⟩
  · exact (h.mp x h2).2.2.2.2.2
  · rw [h2]
    have h3 := hp j hj
    have e : (((a + j - (a + j) % 8 : Nat) : Int)) / 16384 = ((a + j : Nat) : Int) / 16384 := by omega
    rw [e]
    exact h3
theorem FitH.store {l : List SM} {m : List SC} (h : FitH l m) {a n v : Int} (a0 : 0 ≤ a) (a1 : a < 18446744073709551616) (hm : m.length ≤ 131000) : FitH (storeS l m a n v).1 (storeS l m a n v).2.1 := by
  unfold storeS
  split
  · exact h
  rename_i hn
  split
  · rename_i h3
    obtain ⟨_, h4⟩ := askS_ok a0 a1 (Int.le_refl 0) (by omega) h3
    have h5 := (h4 (n - 1) (by omega) (by omega)).1
    refine h.pokes (by omega) (by omega) (fun j hj => ?_)
    have h6 := faultS_has (h4 (j : Int) (by omega) (by omega)).2
    rwa [show a + (j : Int) = ((a.toNat + j : Nat) : Int) by omega] at h6
  · exact h
end Go.Proofs.Ytlmmipdgedfboaa.F
end
section
namespace Go.Proofs.Ytlmmipdgedfboaa.F
open Go.RowKit Go.Shelf Go.Proofs.YtlmmipdgedfboaaW.PrintWords Go.Proofs.YtlmmipdgedfboaaW.PrintLast Go.Proofs.YtlmmipdgedfboaaW.PrintMore
set_option linter.unusedVariables false
set_option linter.unusedSimpArgs false
def clearS (m : List SC) (a n : Int) : List SC := (m.map (clrC a n)).filter (fun x => !(x.f1 == 0))
theorem clrW_spec {y w : Nat} (hy : y + 8 ≤ 18446744073709551616) (hw : w < 256 ^ 8) (a n : Nat) : ∀ j, j ≤ 8 → ∃ q : Nat, q < 256 ^ 8 ∧ clrW (a : Int) (n : Int) (y : Int) (w : Int) j = (q : Int) ∧ ∀ k, k < 8 → byteAt q k = if k < j ∧ a ≤ y + k ∧ y + k - a < n then 0 else byteAt w k
  | 0, _ => ⟨w, hw, rfl, fun k _ => by rw [if_neg (by omega)]⟩
  | j + 1, hj => by
    obtain ⟨q, hq, e, hb⟩ := clrW_spec hy hw a n j (by omega)
    rw [clrW_succ, e]
    unfold clrStep
    have ea : IntKind.u64.wrap ((y : Int) + (j : Int)) = ((y + j : Nat) : Int) := by rw [u64w]; omega
    rw [ea, withB_eq (by omega) (by omega) (by omega)]
    by_cases hin : (a : Int) ≤ ((y + j : Nat) : Int) ∧ ((y + j : Nat) : Int) - (a : Int) < (n : Int)
    · have hp : 256 ^ 1 * 256 ^ j ≤ (18446744073709551616 : Nat) := by rw [← Nat.pow_add]; exact p256_le (by omega)
      have em : IntKind.u64.wrap (255 * 2 ^ (8 * j)) = (((256 ^ 1 - 1) * 256 ^ j : Nat) : Int) := by
        rw [u64w, show (255 : Int) * 2 ^ (8 * j) = (((256 ^ 1 - 1) * 256 ^ j : Nat) : Int) by rw [← p256 j]; simp]
        have := pos256 j
        omega
      rw [decide_eq_true hin, if_pos rfl, em, clr64 hq (by omega)]
      refine ⟨_, putIn_lt hq (by omega), rfl, fun k hk => ?_⟩
      rw [byteAt_putIn]
      by_cases h1 : k < j
      · rw [if_pos h1, hb k hk]
        by_cases h2 : a ≤ y + k ∧ y + k - a < n
        · rw [if_pos ⟨h1, h2⟩, if_pos ⟨by omega, h2⟩]
        · rw [if_neg (by omega), if_neg (by omega)]
      · rw [if_neg h1]
        by_cases h3 : k < j + 1
        · have hkj : k = j := by omega
          rw [if_pos h3, if_pos (by omega)]
          unfold byteAt
          simp
        · rw [if_neg h3, if_neg (by omega), hb k hk, if_neg (by omega)]
    · rw [decide_eq_false hin, if_neg (by decide)]
      refine ⟨q, hq, rfl, fun k hk => ?_⟩
      rw [hb k hk]
      by_cases h1 : k < j ∧ a ≤ y + k ∧ y + k - a < n
      · rw [if_pos h1, if_pos (by omega)]
      · rw [if_neg h1]
        by_cases hkj : k = j
        · rw [if_neg (by omega)]
        · rw [if_neg (by omega)]
theorem clrC_key (a n : Int) (x : SC) : clK (clrC a n x) = clK x := rfl
theorem clear_rises {m : List SC} (hr : Rises clK m) (a n : Int) : Rises clK (clearS m a n) := rises_filter clK _ (rises_map clK _ (clrC_key a n) hr)
theorem CellsH.clear {m : List SC} (h : CellsH m) (a n : Nat) : CellsH (clearS m (a : Int) (n : Int)) := by
  refine ⟨clear_rises h.mr _ _, fun x hx => ?_⟩
  obtain ⟨h1, h2⟩ := List.mem_filter.1 hx
  obtain ⟨y, hy, rfl⟩ := List.mem_map.1 h1
  have h3 := h.mp y hy
  obtain ⟨Y, hY⟩ : ∃ Y : Nat, y.f0 = (Y : Int) := ⟨y.f0.toNat, by omega⟩
  obtain ⟨W, hW⟩ : ∃ W : Nat, y.f1 = (W : Int) := ⟨y.f1.toNat, by omega⟩
  obtain ⟨q, hq, e, _⟩ := clrW_spec (y := Y) (w := W) (by omega) (by rw [p256_8]; omega) a n 8 (Nat.le_refl _)
  have e2 : (clrC (a : Int) (n : Int) y).f1 = (q : Int) := by
    show clrW _ _ y.f0 y.f1 8 = _
    rw [hY, hW]
    exact e
  rw [p256_8] at hq
  rw [e2] at h2 ⊢
  refine ⟨h3.1, h3.2.1, h3.2.2.1, ?_, by omega⟩
  have : ¬ (q : Int) = 0 := by simpa using h2
  omega
theorem FitH.clear {l : List SM} {m : List SC} (h : FitH l m) {a n : Int} (a0 : 0 ≤ a) (n0 : 0 ≤ n) : FitH l (clearS m a n) := by
  obtain ⟨A, rfl⟩ : ∃ N : Nat, a = (N : Int) := ⟨a.toNat, by omega⟩
  obtain ⟨M, rfl⟩ : ∃ N : Nat, n = (N : Int) := ⟨n.toNat, by omega⟩
  have hc := h.cells.clear A M
  refine ⟨h.lr, h.ln, h.lp, hc.mr, ?_, fun x hx => ?_⟩
  · have h1 : (clearS m (A : Int) (M : Int)).length ≤ m.length := by
      unfold clearS
      refine Nat.le_trans (List.length_filter_le _ _) ?_
      rw [List.length_map]
      exact Nat.le_refl _
    exact Nat.le_trans h1 h.mn
  · have h1 := hc.mp x hx
    refine ⟨h1.1, h1.2.1, h1.2.2.1, h1.2.2.2.1, h1.2.2.2.2, ?_⟩
    obtain ⟨h2, _⟩ := List.mem_filter.1 hx
    obtain ⟨y, hy, rfl⟩ := List.mem_map.1 h2
    exact (h.mp y hy).2.2.2.2.2
end Go.Proofs.Ytlmmipdgedfboaa.F
end
section
namespace Go.Proofs.Ytlmmipdgedfboaa.F
open Go.RowKit Go.Shelf Go.Proofs.YtlmmipdgedfboaaW.PrintWords Go.Proofs.YtlmmipdgedfboaaW.PrintLast Go.Proofs.YtlmmipdgedfboaaW.PrintMore
set_option linter.unusedVariables false
set_option linter.unusedSimpArgs false
theorem awake03 : ferrylaw03_awake.f 60 = some true := by decide +kernel
theorem awake03_ge (k : Nat) (h : 60 ≤ k) : ferrylaw03_awake.f k = some true := by
  obtain ⟨d, rfl⟩ : ∃ d, k = 60 + d := ⟨k - 60, by omega⟩
  induction d with
  | zero => exact awake03
  | succ d ih => exact ferrylaw03_awake.mono _ _ (ih (by omega))
def few3 (l : List SM) (m : List SC) : Bool := decide (l.length ≤ 70 ∧ m.length ≤ 200)
theorem few3_spec (l : List SM) (m : List SC) : ferrylaw03_few.f l m = some (few3 l m) := by
  unfold ferrylaw03_few.f few3
  by_cases h : l.length ≤ 70
  · rw [if_pos (by omega)]
    congr 1
    exact decide_eq_decide.2 (by omega)
  · rw [if_neg (by omega), decide_eq_false (by omega)]
theorem ref_Fit_spec (l : List SM) (m : List SC) (h : l.length ≤ 1000000 ∧ m.length ≤ 1000000) : ferryref03_Fit.f l m = some (fitR l m) := by
  unfold ferryref03_Fit.f
  rw [if_pos h]
end Go.Proofs.Ytlmmipdgedfboaa.F
end
