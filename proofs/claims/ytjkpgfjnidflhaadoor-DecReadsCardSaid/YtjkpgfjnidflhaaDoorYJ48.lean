import Derived.Below
import Derived.Deep.Draws
import Derived.Deep.AppendLies
import Derived.Maps.AppendAt
import Derived.OwnWalk
import Derived.Laws.BytesArg
import Derived.Laws.MakeOwn
import Derived.Laws.OwnMore
import Derived.Deep.OwnRows
import Derived.Tactics
import Derived.Lib.ConvBytes
import Derived.Laws.Slices
import Derived.WalkKit
import Derived.KernelRfl
import Derived.RowKit3
import Derived.Deep.LoopGhost
import Derived.Deep.QuietTactic
import Derived.BigQuiet
import Derived.WideLaws
import Derived.Deep.DeepCutAuto
import Derived.Deep.CutBlock
import Derived.Deep.RegionHeld3
import Derived.Laws.Rows
import Derived.Lib.AppendStr
import Derived.ArgAppend
import Derived.Laws.IdiomCopy
import Derived.RowKit
import Derived.OrdersHeld
import Derived.Laws.BitsLemmas
import Derived.Laws.StructEq
import Derived.ProofKit
import Derived.OwnWalkIn
import Derived.WalkSmall
import Derived.Laws.ResultCell
import Derived.RangeFuncRecord
import Derived.Lib.Hide
import Derived.Deep.RegionWith
import Derived.Maps.OwnOps
import Derived.Shelf.LaysM
import Derived.Shelf.Strings.Replace
import Derived.Lib.LaidTab
import Derived.Shelf.Abstract
import Derived.Shelf.RegionOpen
import Derived.OpenShut
import Derived.Deep.Slices
import Derived.SizedLaws
import Derived.Test.YtjkpgfjnidflhaaDoorZF0
import Derived.Test.YtjkpgfjnidflhaaDoorYA5HDecTake
import Derived.Test.YtjkpgfjnidflhaaDoorYA8HDecForms
import Derived.Test.YtjkpgfjnidflhaaDoorYA10HDecFind
import Derived.Test.YtjkpgfjnidflhaaDoorYA14HDecNamed
import Derived.Test.YtjkpgfjnidflhaaDoorYA15HDecTop
import Derived.Test.YtjkpgfjnidflhaaDoorYA16
import Derived.Test.YtjkpgfjnidflhaaDoorYA18PDec4
import Derived.Test.YtjkpgfjnidflhaaDoorYC22PDec4
import Derived.Test.YtjkpgfjnidflhaaDoorYE24PDec4
import Derived.Test.YtjkpgfjnidflhaaDoorYH33HDecRef
import Derived.Test.YtjkpgfjnidflhaaDoorYH38PDec4
import Derived.Test.YtjkpgfjnidflhaaDoorYJ42HDecGuess
import Derived.Test.YtjkpgfjnidflhaaDoorYJ43FFerryref07Names
import Derived.Test.YtjkpgfjnidflhaaDoorYJ44FFerryref07Decode
import Derived.Test.YtjkpgfjnidflhaaDoorYJ45FFerrylaw07DecReads
import Derived.Test.YtjkpgfjnidflhaaDoorYJ46QDecReads
import Derived.Test.YtjkpgfjnidflhaaDoorYJ47PDec3
section
namespace Go.Proofs.YtjkpgfjnidflhaaDoor.F
open Go.RowKit Go.Proofs.YtjkpgfjnidflhaaDoorW.PrintWords Go.Proofs.YtjkpgfjnidflhaaDoorW.PrintLast Go.Proofs.YtjkpgfjnidflhaaDoorW.PrintMore
set_option linter.unusedVariables false
set_option linter.unusedSimpArgs false
theorem guess_row (x : S38) (hx : x ∈ decRows) (w : Int) : ferryref07_guess.f x.f0 w = some (x.f0, (takeAll (infoAt x) w).s, (takeAll (infoAt x) w).t, (takeAll (infoAt x) w).d, (takeAll (infoAt x) w).a, (takeAll (infoAt x) w).i) := by
  obtain ⟨hm, he⟩ := info_form x hx
  have hsp := (row_kind x hx).1
  unfold ferryref07_guess.f
  rw [hsp, Option.bind_some]
  dsimp only
  generalize infoAt x = q at hm he ⊢
  simp only [formTable, List.mem_cons, List.not_mem_nil, or_false] at hm
  rcases hm with rfl | rfl | rfl | rfl | rfl | rfl | rfl | rfl | rfl | rfl | rfl | rfl | rfl | rfl | rfl | rfl | rfl | rfl | rfl | rfl
  · rw [← he, show regsOf [100, 116, 97] = some ([100, 116, 97], (false, true, true, true), 0) from rfl, Option.map_some, ← gs_dta w]
    rfl
  · rw [← he, show regsOf [100, 116, 115] = some ([100, 116, 115], (true, true, true, false), 0) from rfl, Option.map_some, ← gs_dts w]
    rfl
  · rw [← he, show regsOf [115] = some ([115], (true, false, false, false), 0) from rfl, Option.map_some, ← gs_s w]
    rfl
  · rw [← he, show regsOf [100, 115] = some ([100, 115], (true, false, true, false), 0) from rfl, Option.map_some, ← gs_ds w]
    rfl
  · rw [← he, show regsOf [100, 115, 116] = some ([100, 115, 116], (true, true, true, false), 0) from rfl, Option.map_some, ← gs_dst w]
    rfl
  · rw [← he, show regsOf [99] = some ([99], (false, false, false, false), 20) from rfl, Option.map_some, ← gs_c w]
    rfl
  · rw [← he, show regsOf [100] = some ([100], (false, false, true, false), 0) from rfl, Option.map_some, ← gs_d w]
    rfl
  · rw [← he, show regsOf [115, 116] = some ([115, 116], (true, true, false, false), 0) from rfl, Option.map_some, ← gs_st w]
    rfl
  · rw [← he, show regsOf [100, 116, 114] = some ([100, 116, 114], (false, true, true, true), 0) from rfl, Option.map_some, ← gs_dtr w]
    rfl
  · rw [← he, show regsOf [100, 116, 118] = some ([100, 116, 118], (true, true, true, false), 0) from rfl, Option.map_some, ← gs_dtv w]
    rfl
  · rw [← he, show regsOf [115, 111] = some ([115, 111], (true, false, false, false), 16) from rfl, Option.map_some, ← gs_so w]
    rfl
  · rw [← he, show regsOf [106] = some ([106], (false, false, false, false), 26) from rfl, Option.map_some, ← gs_j w]
    rfl
  · rw [← he, show regsOf [115, 116, 111] = some ([115, 116, 111], (true, true, false, false), 16) from rfl, Option.map_some, ← gs_sto w]
    rfl
  · rw [← he, show regsOf [116, 115, 105] = some ([116, 115, 105], (true, true, false, false), 16) from rfl, Option.map_some, ← gs_tsi w]
    rfl
  · rw [← he, show regsOf [116, 105] = some ([116, 105], (false, true, false, false), 16) from rfl, Option.map_some, ← gs_ti w]
    rfl
  · rw [← he, show regsOf [100, 115, 100] = some ([100, 115, 100], (true, false, true, false), 0) from rfl, Option.map_some, ← gs_dsd w]
    rfl
  · rw [← he, show regsOf [116, 115, 120] = some ([116, 115, 120], (true, true, true, true), 0) from rfl, Option.map_some, ← gs_tsx w]
    rfl
  · rw [← he, show regsOf [100, 116] = some ([100, 116], (false, true, true, false), 0) from rfl, Option.map_some, ← gs_dt w]
    rfl
  · rw [← he, show regsOf [116, 100] = some ([116, 100], (false, true, true, false), 0) from rfl, Option.map_some, ← gs_td w]
    rfl
  · rw [← he, show regsOf [116, 109] = some ([116, 109], (true, true, false, false), 16) from rfl, Option.map_some, ← gs_tm w]
    rfl
end Go.Proofs.YtjkpgfjnidflhaaDoor.F
end
section
namespace Go.Proofs.YtjkpgfjnidflhaaDoor.F
open Go.RowKit Go.Proofs.YtjkpgfjnidflhaaDoorW.PrintWords Go.Proofs.YtjkpgfjnidflhaaDoorW.PrintLast Go.Proofs.YtjkpgfjnidflhaaDoorW.PrintMore
set_option linter.unusedVariables false
set_option linter.unusedSimpArgs false
def refRows : List S38 := decRows.take 36 ++ (decRows.drop 38 ++ (decRows.drop 36).take 2)
theorem names_rows : ferryref07_Names.f = some (refRows.map (fun x => x.f0)) := by decide +kernel
theorem ref_mem (x : S38) (h : x ∈ refRows) : x ∈ decRows := by
  unfold refRows at h
  simp only [List.mem_append] at h
  rcases h with h | h | h
  · exact List.mem_of_mem_take h
  · exact List.mem_of_mem_drop h
  · exact List.mem_of_mem_drop (List.mem_of_mem_take h)
theorem ref_length : refRows.length = 83 := by decide +kernel
def readOf (y : S38 × Bool) (w : Int) : ByteArray × Int × Int × Int × Int × Int × Bool :=
  (y.1.f0, (if y.2 then takeAll (infoAt y.1) w else nums0).s, (if y.2 then takeAll (infoAt y.1) w else nums0).t, (if y.2 then takeAll (infoAt y.1) w else nums0).d, (if y.2 then takeAll (infoAt y.1) w else nums0).a, (if y.2 then takeAll (infoAt y.1) w else nums0).i, y.2)
theorem found_cons_t {α : Type} (p : α → Bool) (z x : α) (l : List α) (h : p x = true) : foundOf p z (x :: l) = (x, true) := by
  unfold foundOf
  rw [if_pos h]
theorem found_cons_f {α : Type} (p : α → Bool) (z x : α) (l : List α) (h : p x = false) : foundOf p z (x :: l) = foundOf p z l := by
  conv => lhs; unfold foundOf
  rw [h, if_neg (by decide)]
theorem ref_loop (w : Int) (h0 : 0 ≤ w) (h1 : w ≤ 4294967295) : ∀ (m i : Nat), i + m = 83 → ∀ k, ferryref07_Decode.l0 (k + m + 2) w (refRows.map (fun x => x.f0)) (i : Int) = some (readOf (foundOf (decode_p w) z38 (refRows.drop i)) w)
  | 0, i, hi, k => by
    conv => lhs; unfold ferryref07_Decode.l0
    rw [if_neg (by rw [List.length_map, ref_length]; omega), List.drop_of_length_le (by rw [ref_length]; omega)]
    rfl
  | m + 1, i, hi, k => by
    have hlt : i < refRows.length := by rw [ref_length]; omega
    have ih := ref_loop w h0 h1 m (i + 1) (by omega) k
    rw [List.drop_eq_getElem_cons hlt]
    have hm := ref_mem refRows[i] (List.getElem_mem hlt)
    have hrd : rdOf ByteArray.empty (refRows.map (fun x => x.f0)) (i : Int) = refRows[i].f0 := by
      unfold rdOf
      rw [Int.toNat_natCast, List.getD_eq_getElem?_getD, List.getElem?_map, List.getElem?_eq_getElem hlt]
      rfl
    have hw : wrap64 ((i : Int) + 1) = ((i + 1 : Nat) : Int) := by
      rw [w64_id (by omega) (by omega)]
      rfl
    conv => lhs; unfold ferryref07_Decode.l0
    rw [if_pos (by rw [List.length_map]; omega), if_pos (by omega), hrd, hw]
    generalize refRows[i] = x at hm
    obtain ⟨hsp, -, -, -, -, -⟩ := row_kind x hm
    rw [hsp, Option.bind_some]
    dsimp only
    by_cases hop : x.f1 = w / 67108864
    · rw [if_pos hop, guess_row x hm w, Option.bind_some]
      dsimp only
      obtain ⟨b, hb, hbi⟩ := enc_row (k + m + 1) x hm (takeAll (infoAt x) w) (tr_row x hm w h0 h1).1 (tr_row x hm w h0 h1).2
      have hfu : k + (m + 1) + 1 = k + m + 1 + 1 := by omega
      rw [hfu, hb, Option.bind_some]
      by_cases hl : layAll (infoAt x) x.f1 x.f2 (takeAll (infoAt x) w) = w
      · rw [hl] at hbi ⊢
        cases hs : soundOf x.f0 (takeAll (infoAt x) w)
        · have hbf : b = false := by
            cases b with
            | false => rfl
            | true =>
              have := (hbi.1 rfl).2
              rw [hs] at this
              cases this
          rw [hbf]
          simp only [Bool.false_eq_true, if_false]
          have hd : decode_p w x = false := by
            unfold decode_p rowIs
            rw [hs, Bool.and_false]
          rw [found_cons_f _ _ _ _ hd]
          exact ih
        · have hbt : b = true := hbi.2 ⟨rfl, hs⟩
          rw [hbt, if_pos rfl]
          dsimp only
          rw [if_pos rfl, if_pos rfl]
          have hd : decode_p w x = true := by
            unfold decode_p rowIs
            rw [hs, hl, hop]
            simp
          rw [found_cons_t _ _ _ _ hd]
          rfl
      · have hd : decode_p w x = false := by
          unfold decode_p rowIs
          rw [beq_eq_false_iff_ne.2 hl, Bool.and_false, Bool.false_and]
        rw [found_cons_f _ _ _ _ hd]
        cases b with
        | false =>
          simp only [Bool.false_eq_true, if_false]
          exact ih
        | true =>
          rw [if_pos rfl]
          dsimp only
          rw [if_pos rfl, if_neg hl]
          exact ih
    · rw [if_neg hop]
      have hd : decode_p w x = false := by
        unfold decode_p rowIs
        rw [beq_eq_false_iff_ne.2 hop, Bool.false_and, Bool.false_and]
      rw [found_cons_f _ _ _ _ hd]
      exact ih
theorem found_app {α : Type} (p : α → Bool) (z : α) : ∀ (l l' : List α), foundOf p z (l ++ l') = if (foundOf p z l).2 = true then foundOf p z l else foundOf p z l'
  | [], l' => rfl
  | x :: l, l' => by
    rw [List.cons_append]
    cases hp : p x
    · rw [found_cons_f _ _ _ _ hp, found_cons_f _ _ _ _ hp]
      exact found_app p z l l'
    · rw [found_cons_t _ _ _ _ hp, found_cons_t _ _ _ _ hp, if_pos rfl]
theorem rows_parts : decRows = decRows.take 36 ++ ((decRows.drop 36).take 2 ++ decRows.drop 38) := by
  have h : decRows.drop 38 = (decRows.drop 36).drop 2 := by rw [List.drop_drop]
  rw [h, List.take_append_drop, List.take_append_drop]
theorem rot_zero : ((decRows.drop 36).take 2).all (fun x => x.f1 == 0) = true := by decide +kernel
theorem other_ones : (decRows.drop 38).all (fun x => x.f1 != 0) = true := by decide +kernel
theorem found_order (w : Int) : foundOf (decode_p w) z38 refRows = foundOf (decode_p w) z38 decRows := by
  conv => rhs; rw [rows_parts]
  unfold refRows
  rw [found_app, found_app _ _ (decRows.take 36)]
  congr 1
  rw [found_app, found_app]
  have hf := fun (l : List S38) => found_mem (decode_p w) z38 l
  have hz := fun (l : List S38) => found_zero (decode_p w) z38 l
  cases hR : (foundOf (decode_p w) z38 ((decRows.drop 36).take 2)).2
  · cases hO : (foundOf (decode_p w) z38 (decRows.drop 38)).2
    · simp only [Bool.false_eq_true, if_false]
      exact Prod.ext ((hz _ hR).trans (hz _ hO).symm) (hR.trans hO.symm)
    · simp only [Bool.false_eq_true, if_false, if_true]
  · cases hO : (foundOf (decode_p w) z38 (decRows.drop 38)).2
    · simp only [Bool.false_eq_true, if_false, if_true]
    · exfalso
      have m1 := hf _ hR
      have m2 := hf _ hO
      have a1 := List.all_eq_true.1 rot_zero _ m1.1
      have a2 := List.all_eq_true.1 other_ones _ m2.1
      have p1 := m1.2
      have p2 := m2.2
      unfold decode_p rowIs at p1 p2
      simp only [Bool.and_eq_true, beq_iff_eq] at p1 p2 a1
      rw [bne_iff_ne] at a2
      exact a2 (p2.1.1.trans (p1.1.1.symm.trans a1))
theorem ref_reads (w : Int) (h0 : 0 ≤ w) (h1 : w ≤ 4294967295) (k : Nat) : ferryref07_Decode.f (k + 85) w = dec_Decode.f w := by
  unfold ferryref07_Decode.f
  rw [names_rows, Option.bind_some]
  have h := ref_loop w h0 h1 83 0 rfl k
  rw [List.drop_zero, found_order] at h
  refine h.trans ?_
  unfold dec_Decode.f readOf decNums
  rfl
end Go.Proofs.YtjkpgfjnidflhaaDoor.F
end
section
namespace Go.Proofs.YtjkpgfjnidflhaaDoor.F
open Go.RowKit Go.Proofs.YtjkpgfjnidflhaaDoorW.PrintWords Go.Proofs.YtjkpgfjnidflhaaDoorW.PrintLast Go.Proofs.YtjkpgfjnidflhaaDoorW.PrintMore
theorem reads_awake : ferrylaw07_awake.f = some true := by decide +kernel
theorem DecReads_pure : ferrylaw07_DecReads.Pure := by
  intro w hw
  refine ⟨85, ?_⟩
  unfold ferrylaw07_DecReads.f
  rw [show ferryref07_Decode.f 85 w = dec_Decode.f w from ref_reads w hw.1 hw.2 0]
  have e : ∃ v, dec_Decode.f w = some v := ⟨_, rfl⟩
  obtain ⟨v, e⟩ := e
  rw [e]
  simp only [Option.bind_some, beq_self_eq_true, Bool.and_self, if_true, reads_awake]
end Go.Proofs.YtjkpgfjnidflhaaDoor.F
end
