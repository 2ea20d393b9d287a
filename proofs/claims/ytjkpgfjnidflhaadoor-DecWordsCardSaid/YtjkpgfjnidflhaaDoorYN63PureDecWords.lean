import Derived.Below
import Derived.Deep.Draws
import Derived.Deep.AppendLies
import Derived.Maps.AppendAt
import Derived.OwnWalk
import Derived.Laws.BytesArg
import Derived.Laws.MakeOwn
import Derived.Laws.OwnMore
import Derived.Deep.OwnRows
import Derived.Tactics
import Derived.Lib.ConvBytes
import Derived.Laws.Slices
import Derived.WalkKit
import Derived.KernelRfl
import Derived.RowKit3
import Derived.Deep.LoopGhost
import Derived.Deep.QuietTactic
import Derived.BigQuiet
import Derived.WideLaws
import Derived.Deep.DeepCutAuto
import Derived.Deep.CutBlock
import Derived.Deep.RegionHeld3
import Derived.Laws.Rows
import Derived.Lib.AppendStr
import Derived.ArgAppend
import Derived.Laws.IdiomCopy
import Derived.RowKit
import Derived.OrdersHeld
import Derived.Laws.BitsLemmas
import Derived.Laws.StructEq
import Derived.ProofKit
import Derived.OwnWalkIn
import Derived.WalkSmall
import Derived.Laws.ResultCell
import Derived.RangeFuncRecord
import Derived.Lib.Hide
import Derived.Deep.RegionWith
import Derived.Maps.OwnOps
import Derived.Shelf.LaysM
import Derived.Shelf.Strings.Replace
import Derived.Lib.LaidTab
import Derived.Shelf.Abstract
import Derived.Shelf.RegionOpen
import Derived.OpenShut
import Derived.Deep.Slices
import Derived.SizedLaws
import Derived.Test.YtjkpgfjnidflhaaDoorZF0
import Derived.Test.YtjkpgfjnidflhaaDoorYA5HDecTake
import Derived.Test.YtjkpgfjnidflhaaDoorYA8HDecForms
import Derived.Test.YtjkpgfjnidflhaaDoorYA9FDecSound
import Derived.Test.YtjkpgfjnidflhaaDoorYA10HDecFind
import Derived.Test.YtjkpgfjnidflhaaDoorYA14HDecNamed
import Derived.Test.YtjkpgfjnidflhaaDoorYA16
import Derived.Test.YtjkpgfjnidflhaaDoorYC21PDec1
import Derived.Test.YtjkpgfjnidflhaaDoorYD23PDec6
import Derived.Test.YtjkpgfjnidflhaaDoorYF25
import Derived.Test.YtjkpgfjnidflhaaDoorYG27FDecEncode
import Derived.Test.YtjkpgfjnidflhaaDoorYG28PDec6
import Derived.Test.YtjkpgfjnidflhaaDoorYI39PDec7
import Derived.Test.YtjkpgfjnidflhaaDoorYI40PDec8
import Derived.Test.YtjkpgfjnidflhaaDoorYN61FFerrylaw07DecWords
import Derived.Test.YtjkpgfjnidflhaaDoorYN62QDecWords
section
namespace Go.Proofs.YtjkpgfjnidflhaaDoor.F
open Go.RowKit Go.Proofs.YtjkpgfjnidflhaaDoorW.PrintWords Go.Proofs.YtjkpgfjnidflhaaDoorW.PrintLast Go.Proofs.YtjkpgfjnidflhaaDoorW.PrintMore
set_option linter.unusedVariables false
set_option linter.unusedSimpArgs false
theorem words_awake : ferrylaw07_awake.f = some true := by decide +kernel
def rowAddu : S38 := ⟨⟨#[97, 100, 100, 117]⟩, 0, 33, ⟨#[100, 115, 116]⟩⟩
def rowLw : S38 := ⟨⟨#[108, 119]⟩, 35, 0, ⟨#[116, 109]⟩⟩
theorem row_same (o : Option S38) (x : S38) (h : o.map (fun x => (x.f0.toList, x.f1, x.f2, x.f3.toList)) = some (x.f0.toList, x.f1, x.f2, x.f3.toList)) : o = some x := by
  cases o with
  | none => cases h
  | some y =>
    obtain ⟨a, b, c, d⟩ := x
    obtain ⟨a', b', c', d'⟩ := y
    simp only [Option.map_some, Option.some.injEq, Prod.mk.injEq] at h
    obtain ⟨h1, h2, h3, h4⟩ := h
    have e1 : a' = a := WideShapes.bytes_inj (by rw [← ByteArray.toList_eq, ← ByteArray.toList_eq, h1])
    have e2 : d' = d := WideShapes.bytes_inj (by rw [← ByteArray.toList_eq, ← ByteArray.toList_eq, h4])
    rw [e1, e2, h2, h3]
theorem rows_at : decRows[21]? = some rowAddu ∧ decRows[72]? = some rowLw := by
  constructor
  · have h : (decRows[21]?).map (fun x => (x.f0.toList, x.f1, x.f2, x.f3.toList)) = some (rowAddu.f0.toList, rowAddu.f1, rowAddu.f2, rowAddu.f3.toList) := by decide +kernel
    exact row_same _ _ h
  · have h : (decRows[72]?).map (fun x => (x.f0.toList, x.f1, x.f2, x.f3.toList)) = some (rowLw.f0.toList, rowLw.f1, rowLw.f2, rowLw.f3.toList) := by decide +kernel
    exact row_same _ _ h
theorem info_addu : infoAt rowAddu = ([100, 115, 116], [100, 115, 116], 0, 16) := by decide +kernel
theorem info_lw : infoAt rowLw = ([116, 109], [116, 115, 105], 0, 16) := by decide +kernel
theorem sound_plain (nm : ByteArray) (n : Nums) (h1 : nm.toList ≠ [101, 120, 116]) (h2 : nm.toList ≠ [105, 110, 115]) (h3 : nm.toList ≠ [114, 100, 104, 119, 114]) : soundOf nm n = true := by
  unfold soundOf dec_sound.f
  rw [if_neg h1, if_neg h2, if_neg h3]
  rfl
theorem word_addu (a b c : Int) (a0 : 0 ≤ a) (a1 : a < 32) (b0 : 0 ≤ b) (b1 : b < 32) (c0 : 0 ≤ c) (c1 : c < 32) : dec_Encode.f ⟨#[97, 100, 100, 117]⟩ b c a 0 0 = some ((W 0 (dg b) (dg c) (dg a) 0 33 : Int), true) := by
  have hx : rowAddu ∈ decRows := List.mem_of_getElem? rows_at.1
  have he := enc_found rowAddu hx ⟨b, c, a, 0, 0⟩ (named_row rowAddu hx)
  have hl : layAll (infoAt rowAddu) rowAddu.f1 rowAddu.f2 ⟨b, c, a, 0, 0⟩ = (W 0 (dg b) (dg c) (dg a) 0 33 : Int) := by
    rw [info_addu]
    exact lay_dst 0 33 (by decide) (by decide) (by decide) ⟨b, c, a, 0, 0⟩
  have ht : takeAll (infoAt rowAddu) (layAll (infoAt rowAddu) rowAddu.f1 rowAddu.f2 ⟨b, c, a, 0, 0⟩) = ⟨b, c, a, 0, 0⟩ := by
    rw [info_addu]
    refine (tl_dst 0 33 (by decide) (by decide) (by decide) ⟨b, c, a, 0, 0⟩ (show (0 : Int) ≤ 0 by decide) (show (0 : Int) ≤ 4294967295 by decide)).2 ⟨?_, ?_, ?_, ?_, ?_⟩
    · exact fits_of b0 b1 (fun e => by cases e)
    · exact fits_of c0 c1 (fun e => by cases e)
    · exact fits_of a0 a1 (fun e => by cases e)
    · exact fits_of (show (0 : Int) ≤ 0 by decide) (show (0 : Int) < 32 by decide) (fun _ => rfl)
    · exact decide_eq_false (show ¬ ((1 : Int) ≤ 0) by decide)
  rw [if_pos ⟨ht, sound_plain _ _ (by decide +kernel) (by decide +kernel) (by decide +kernel)⟩, hl] at he
  exact he
theorem word_lw (a b c : Int) (a0 : 0 ≤ a) (a1 : a < 32) (b0 : 0 ≤ b) (b1 : b < 32) (c0 : 0 ≤ c) (c1 : c < 32) : dec_Encode.f ⟨#[108, 119]⟩ b a 0 0 c = some ((W 35 (dg b) (dg a) (c.toNat / 2048) (c.toNat / 64) c.toNat : Int), true) := by
  have hx : rowLw ∈ decRows := List.mem_of_getElem? rows_at.2
  have he := enc_found rowLw hx ⟨b, a, 0, 0, c⟩ (named_row rowLw hx)
  have hl : layAll (infoAt rowLw) rowLw.f1 rowLw.f2 ⟨b, a, 0, 0, c⟩ = (W 35 (dg b) (dg a) (c.toNat / 2048) (c.toNat / 64) c.toNat : Int) := by
    rw [info_lw]
    refine (lay_tm 35 0 (by decide) (by decide) (by decide) ⟨b, a, 0, 0, c⟩ c0 (show c ≤ 4294967295 by omega)).trans ?_
    rw [Nat.or_zero]
  have ht : takeAll (infoAt rowLw) (layAll (infoAt rowLw) rowLw.f1 rowLw.f2 ⟨b, a, 0, 0, c⟩) = ⟨b, a, 0, 0, c⟩ := by
    rw [info_lw]
    refine (tl_tm 35 0 (by decide) (by decide) rfl ⟨b, a, 0, 0, c⟩ c0 (show c ≤ 4294967295 by omega)).2 ⟨?_, ?_, ?_, ?_, ?_⟩
    · exact fits_of b0 b1 (fun e => by cases e)
    · exact fits_of a0 a1 (fun e => by cases e)
    · exact fits_of (show (0 : Int) ≤ 0 by decide) (show (0 : Int) < 32 by decide) (fun _ => rfl)
    · exact fits_of (show (0 : Int) ≤ 0 by decide) (show (0 : Int) < 32 by decide) (fun _ => rfl)
    · exact decide_eq_false (show ¬ (65536 ≤ c) by omega)
  rw [if_pos ⟨ht, sound_plain _ _ (by decide +kernel) (by decide +kernel) (by decide +kernel)⟩, hl] at he
  exact he
theorem words_same (k : Nat) (n1 n2 : ByteArray) (x y : Nums) (h0 : 0 ≤ x.i) (h1 : x.i ≤ 4294967295) (g0 : 0 ≤ y.i) (g1 : y.i ≤ 4294967295) :
    ferrylaw07_DecWords.j0 (k + 1) false n1 x.s x.t x.d x.a x.i n2 y.s y.t y.d y.a y.i = some true := by
  unfold ferrylaw07_DecWords.j0
  dsimp only
  rw [if_neg (by decide)]
  rcases enc_cases n1 x h0 h1 with he | ⟨r, hr, hn, he, ht, hp, r0, r1⟩
  · rcases enc_cases n2 y g0 g1 with he2 | ⟨r2, hr2, hn2, he2, ht2, hp2, r20, r21⟩
    · rw [he, he2, words_awake]
      rfl
    · rw [he, he2, words_awake]
      rfl
  · rcases enc_cases n2 y g0 g1 with he2 | ⟨r2, hr2, hn2, he2, ht2, hp2, r20, r21⟩
    · rw [he, he2, words_awake]
      rfl
    · rw [he, he2, Option.bind_some, Option.bind_some]
      dsimp only
      rw [if_pos rfl, if_pos rfl]
      have hq : ((layAll (infoAt r) r.f1 r.f2 x == layAll (infoAt r2) r2.f1 r2.f2 y) == (n1.toList == n2.toList && (x.s == y.s && (x.t == y.t && (x.d == y.d && (x.a == y.a && (x.i == y.i))))))) = true := by
        by_cases hv : layAll (infoAt r) r.f1 r.f2 x = layAll (infoAt r2) r2.f1 r2.f2 y
        · have hp3 := hp2
          rw [← hv] at hp3
          have hrr := row_unique _ r0 r1 r r2 hr hr2 hp hp3
          subst hrr
          have hxy : x = y := by rw [← ht, ← ht2, hv]
          subst hxy
          rw [← hn, ← hn2]
          simp
        · have hne : (n1.toList == n2.toList && (x.s == y.s && (x.t == y.t && (x.d == y.d && (x.a == y.a && (x.i == y.i)))))) = false := by
            rw [Bool.eq_false_iff]
            intro hh
            simp only [Bool.and_eq_true, beq_iff_eq] at hh
            obtain ⟨e0, e1, e2, e3, e4, e5⟩ := hh
            have e6 : n1 = n2 := WideShapes.bytes_inj (by rw [← ByteArray.toList_eq, ← ByteArray.toList_eq, e0])
            rw [e6, e1, e2, e3, e4, e5, he2] at he
            have := (Prod.mk.inj (Option.some.inj he)).1
            exact hv this.symm
          rw [hne, beq_eq_false_iff_ne.2 hv]
          rfl
      rw [if_pos hq, words_awake]
      rfl
theorem DecWords_pure : ferrylaw07_DecWords.Pure := by
  unfold ferrylaw07_DecWords.Pure
  intro a0 a1 a2 n1 x1 x2 x3 x4 x5 n2 y1 y2 y3 y4 y5
  intros
  refine ⟨2, ?_⟩
  have t0 : Int.tmod a0 32 = a0 % 32 := Int.tmod_eq_emod_of_nonneg (by omega)
  have t1 : Int.tmod a1 32 = a1 % 32 := Int.tmod_eq_emod_of_nonneg (by omega)
  have t2 : Int.tmod a2 32 = a2 % 32 := Int.tmod_eq_emod_of_nonneg (by omega)
  have m0 : a0 % 32 % 4294967296 = a0 % 32 := by omega
  have m1 : a1 % 32 % 4294967296 = a1 % 32 := by omega
  have m2 : a2 % 32 % 4294967296 = a2 % 32 := by omega
  unfold ferrylaw07_DecWords.f
  rw [t0, t1, t2]
  have s1 := ref_s (n := a1 % 32) (by omega) (by omega)
  have s2 := ref_t (n := a2 % 32) (by omega) (by omega)
  have s3 := ref_d (n := a0 % 32) (by omega) (by omega)
  have s4 := ref_t (n := a0 % 32) (by omega) (by omega)
  rw [m0] at s3 s4 ⊢
  rw [m1] at s1 ⊢
  rw [m2] at s2 ⊢
  have s5 := ref_i16 (i := a2 % 32) (by omega) (by omega)
  have b0 : 0 ≤ a0 % 32 ∧ a0 % 32 < 32 := by omega
  have b1 : 0 ≤ a1 % 32 ∧ a1 % 32 < 32 := by omega
  have b2 : 0 ≤ a2 % 32 ∧ a2 % 32 < 32 := by omega
  generalize a0 % 32 = d at s3 s4 b0 ⊢
  generalize a1 % 32 = s at s1 b1 ⊢
  generalize a2 % 32 = t at s2 s5 b2 ⊢
  rw [word_addu d s t b0.1 b0.2 b1.1 b1.2 b2.1 b2.2, word_lw d s t b0.1 b0.2 b1.1 b1.2 b2.1 b2.2, Option.bind_some, Option.bind_some]
  dsimp only
  have e33 : (33 : Int) = (W 0 0 0 0 0 33 : Int) := by decide
  have e35 : (2348810240 : Int) = (W 35 0 0 0 0 0 : Int) := by decide
  have q1 : (W 0 (dg s) (dg t) (dg d) 0 33 : Int) = Go.bits .or .u32 (Go.bits .or .u32 (Go.bits .or .u32 (s * 2097152 % 4294967296) (t * 65536 % 4294967296)) (d * 2048 % 4294967296)) 33 := by
    rw [s1, s2, s3, e33]
    simp only [W_or, Nat.zero_or, Nat.or_zero]
  have q2 : ((W 35 (dg s) (dg d) (t.toNat / 2048) (t.toNat / 64) t.toNat : Int) != Go.bits .or .u32 (Go.bits .or .u32 (Go.bits .or .u32 2348810240 (s * 2097152 % 4294967296)) (d * 65536 % 4294967296)) t) = false := by
    rw [s1, s4, e35]
    generalize t.toNat = m at s5 ⊢
    rw [s5]
    simp only [W_or, Nat.zero_or, Nat.or_zero]
    simp
  rw [if_pos rfl, if_pos rfl, if_pos q1, q2]
  exact words_same 1 n1 n2 ⟨x1, x2, x3, x4, x5⟩ ⟨y1, y2, y3, y4, y5⟩ (show (0:Int) ≤ x5 by omega) (show x5 ≤ 4294967295 by omega) (show (0:Int) ≤ y5 by omega) (show y5 ≤ 4294967295 by omega)
end Go.Proofs.YtjkpgfjnidflhaaDoor.F
end
