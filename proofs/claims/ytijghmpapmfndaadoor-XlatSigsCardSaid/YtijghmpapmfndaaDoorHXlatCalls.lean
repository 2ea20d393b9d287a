/- Package xlat: the list of calls, out of its table. Condition: the table of blanks. -/
import Derived.Test.YtijghmpapmfndaaDoorHXlat
import Derived.Test.YtijghmpapmfndaaDoorLaid
import Derived.Shelf.Strings.Split
namespace Go.Proofs.YtijghmpapmfndaaDoor.F
open Go.RowKit Go.Shelf Go.Proofs.YtijghmpapmfndaaDoorW.PrintWords Go.Proofs.YtijghmpapmfndaaDoorW.PrintLast Go.Proofs.YtijghmpapmfndaaDoorW.PrintMore
set_option linter.unusedVariables false
set_option linter.unusedSimpArgs false
def callTable : ByteArray := ⟨#[101, 120, 105, 116, 32, 52, 48, 48, 49, 32, 45, 49, 59, 114, 101, 97, 100, 32, 52, 48, 48, 51, 32, 48, 59, 119, 114, 105, 116, 101, 32, 52, 48, 48, 52, 32, 49, 59, 111, 112, 101, 110, 32, 52, 48, 48, 53, 32, 50, 59, 99, 108, 111, 115, 101, 32, 52, 48, 48, 54, 32, 51, 59, 117, 110, 108, 105, 110, 107, 32, 52, 48, 49, 48, 32, 56, 55, 59, 99, 104, 100, 105, 114, 32, 52, 48, 49, 50, 32, 56, 48, 59, 116, 105, 109, 101, 32, 52, 48, 49, 51, 32, 45, 49, 59, 108, 115, 101, 101, 107, 32, 52, 48, 49, 57, 32, 56, 59, 103, 101, 116, 112, 105, 100, 32, 52, 48, 50, 48, 32, 51, 57, 59, 103, 101, 116, 117, 105, 100, 32, 52, 48, 50, 52, 32, 45, 49, 59, 97, 99, 99, 101, 115, 115, 32, 52, 48, 51, 51, 32, 50, 49, 59, 107, 105, 108, 108, 32, 52, 48, 51, 55, 32, 45, 49, 59, 114, 101, 110, 97, 109, 101, 32, 52, 48, 51, 56, 32, 56, 50, 59, 109, 107, 100, 105, 114, 32, 52, 48, 51, 57, 32, 56, 51, 59, 114, 109, 100, 105, 114, 32, 52, 48, 52, 48, 32, 56, 52, 59, 100, 117, 112, 32, 52, 48, 52, 49, 32, 51, 50, 59, 112, 105, 112, 101, 32, 52, 48, 52, 50, 32, 50, 50, 59, 98, 114, 107, 32, 52, 48, 52, 53, 32, 45, 49, 59, 103, 101, 116, 101, 117, 105, 100, 32, 52, 48, 52, 57, 32, 45, 49, 59, 100, 117, 112, 50, 32, 52, 48, 54, 51, 32, 51, 51, 59, 109, 109, 97, 112, 32, 52, 48, 57, 48, 32, 45, 49, 59, 109, 117, 110, 109, 97, 112, 32, 52, 48, 57, 49, 32, 45, 49, 59, 102, 116, 114, 117, 110, 99, 97, 116, 101, 32, 52, 48, 57, 51, 32, 55, 55, 59, 115, 105, 103, 114, 101, 116, 117, 114, 110, 32, 52, 49, 49, 57, 32, 45, 49, 59, 117, 110, 97, 109, 101, 32, 52, 49, 50, 50, 32, 54, 51, 59, 109, 112, 114, 111, 116, 101, 99, 116, 32, 52, 49, 50, 53, 32, 45, 49, 59, 108, 108, 115, 101, 101, 107, 32, 52, 49, 52, 48, 32, 45, 49, 59, 114, 101, 97, 100, 118, 32, 52, 49, 52, 53, 32, 45, 49, 59, 119, 114, 105, 116, 101, 118, 32, 52, 49, 52, 54, 32, 45, 49, 59, 110, 97, 110, 111, 115, 108, 101, 101, 112, 32, 52, 49, 54, 54, 32, 45, 49, 59, 114, 116, 95, 115, 105, 103, 114, 101, 116, 117, 114, 110, 32, 52, 49, 57, 51, 32, 45, 49, 59, 114, 116, 95, 115, 105, 103, 97, 99, 116, 105, 111, 110, 32, 52, 49, 57, 52, 32, 45, 49, 59, 114, 116, 95, 115, 105, 103, 112, 114, 111, 99, 109, 97, 115, 107, 32, 52, 49, 57, 53, 32, 45, 49, 59, 114, 116, 95, 115, 105, 103, 112, 101, 110, 100, 105, 110, 103, 32, 52, 49, 57, 54, 32, 45, 49, 59, 103, 101, 116, 99, 119, 100, 32, 52, 50, 48, 51, 32, 55, 57, 59, 115, 105, 103, 97, 108, 116, 115, 116, 97, 99, 107, 32, 52, 50, 48, 54, 32, 45, 49, 59, 109, 109, 97, 112, 50, 32, 52, 50, 49, 48, 32, 45, 49, 59, 115, 116, 97, 116, 54, 52, 32, 52, 50, 49, 51, 32, 52, 59, 108, 115, 116, 97, 116, 54, 52, 32, 52, 50, 49, 52, 32, 52, 59, 102, 115, 116, 97, 116, 54, 52, 32, 52, 50, 49, 53, 32, 53, 59, 103, 101, 116, 100, 101, 110, 116, 115, 54, 52, 32, 52, 50, 49, 57, 32, 50, 49, 55, 59, 101, 120, 105, 116, 95, 103, 114, 111, 117, 112, 32, 52, 50, 52, 54, 32, 45, 49, 59, 99, 108, 111, 99, 107, 95, 103, 101, 116, 116, 105, 109, 101, 32, 52, 50, 54, 51, 32, 50, 50, 56, 59, 115, 101, 116, 95, 116, 104, 114, 101, 97, 100, 95, 97, 114, 101, 97, 32, 52, 50, 56, 51, 32, 45, 49, 59, 103, 101, 116, 114, 97, 110, 100, 111, 109, 32, 52, 51, 53, 51, 32, 51, 49, 56]⟩
def callRows : List ByteArray := [⟨#[101, 120, 105, 116, 32, 52, 48, 48, 49, 32, 45, 49]⟩, ⟨#[114, 101, 97, 100, 32, 52, 48, 48, 51, 32, 48]⟩, ⟨#[119, 114, 105, 116, 101, 32, 52, 48, 48, 52, 32, 49]⟩, ⟨#[111, 112, 101, 110, 32, 52, 48, 48, 53, 32, 50]⟩, ⟨#[99, 108, 111, 115, 101, 32, 52, 48, 48, 54, 32, 51]⟩, ⟨#[117, 110, 108, 105, 110, 107, 32, 52, 48, 49, 48, 32, 56, 55]⟩, ⟨#[99, 104, 100, 105, 114, 32, 52, 48, 49, 50, 32, 56, 48]⟩, ⟨#[116, 105, 109, 101, 32, 52, 48, 49, 51, 32, 45, 49]⟩, ⟨#[108, 115, 101, 101, 107, 32, 52, 48, 49, 57, 32, 56]⟩, ⟨#[103, 101, 116, 112, 105, 100, 32, 52, 48, 50, 48, 32, 51, 57]⟩, ⟨#[103, 101, 116, 117, 105, 100, 32, 52, 48, 50, 52, 32, 45, 49]⟩, ⟨#[97, 99, 99, 101, 115, 115, 32, 52, 48, 51, 51, 32, 50, 49]⟩, ⟨#[107, 105, 108, 108, 32, 52, 48, 51, 55, 32, 45, 49]⟩, ⟨#[114, 101, 110, 97, 109, 101, 32, 52, 48, 51, 56, 32, 56, 50]⟩, ⟨#[109, 107, 100, 105, 114, 32, 52, 48, 51, 57, 32, 56, 51]⟩, ⟨#[114, 109, 100, 105, 114, 32, 52, 48, 52, 48, 32, 56, 52]⟩, ⟨#[100, 117, 112, 32, 52, 48, 52, 49, 32, 51, 50]⟩, ⟨#[112, 105, 112, 101, 32, 52, 48, 52, 50, 32, 50, 50]⟩, ⟨#[98, 114, 107, 32, 52, 48, 52, 53, 32, 45, 49]⟩, ⟨#[103, 101, 116, 101, 117, 105, 100, 32, 52, 48, 52, 57, 32, 45, 49]⟩, ⟨#[100, 117, 112, 50, 32, 52, 48, 54, 51, 32, 51, 51]⟩, ⟨#[109, 109, 97, 112, 32, 52, 48, 57, 48, 32, 45, 49]⟩, ⟨#[109, 117, 110, 109, 97, 112, 32, 52, 48, 57, 49, 32, 45, 49]⟩, ⟨#[102, 116, 114, 117, 110, 99, 97, 116, 101, 32, 52, 48, 57, 51, 32, 55, 55]⟩, ⟨#[115, 105, 103, 114, 101, 116, 117, 114, 110, 32, 52, 49, 49, 57, 32, 45, 49]⟩, ⟨#[117, 110, 97, 109, 101, 32, 52, 49, 50, 50, 32, 54, 51]⟩, ⟨#[109, 112, 114, 111, 116, 101, 99, 116, 32, 52, 49, 50, 53, 32, 45, 49]⟩, ⟨#[108, 108, 115, 101, 101, 107, 32, 52, 49, 52, 48, 32, 45, 49]⟩, ⟨#[114, 101, 97, 100, 118, 32, 52, 49, 52, 53, 32, 45, 49]⟩, ⟨#[119, 114, 105, 116, 101, 118, 32, 52, 49, 52, 54, 32, 45, 49]⟩, ⟨#[110, 97, 110, 111, 115, 108, 101, 101, 112, 32, 52, 49, 54, 54, 32, 45, 49]⟩, ⟨#[114, 116, 95, 115, 105, 103, 114, 101, 116, 117, 114, 110, 32, 52, 49, 57, 51, 32, 45, 49]⟩, ⟨#[114, 116, 95, 115, 105, 103, 97, 99, 116, 105, 111, 110, 32, 52, 49, 57, 52, 32, 45, 49]⟩, ⟨#[114, 116, 95, 115, 105, 103, 112, 114, 111, 99, 109, 97, 115, 107, 32, 52, 49, 57, 53, 32, 45, 49]⟩, ⟨#[114, 116, 95, 115, 105, 103, 112, 101, 110, 100, 105, 110, 103, 32, 52, 49, 57, 54, 32, 45, 49]⟩, ⟨#[103, 101, 116, 99, 119, 100, 32, 52, 50, 48, 51, 32, 55, 57]⟩, ⟨#[115, 105, 103, 97, 108, 116, 115, 116, 97, 99, 107, 32, 52, 50, 48, 54, 32, 45, 49]⟩, ⟨#[109, 109, 97, 112, 50, 32, 52, 50, 49, 48, 32, 45, 49]⟩, ⟨#[115, 116, 97, 116, 54, 52, 32, 52, 50, 49, 51, 32, 52]⟩, ⟨#[108, 115, 116, 97, 116, 54, 52, 32, 52, 50, 49, 52, 32, 52]⟩, ⟨#[102, 115, 116, 97, 116, 54, 52, 32, 52, 50, 49, 53, 32, 53]⟩, ⟨#[103, 101, 116, 100, 101, 110, 116, 115, 54, 52, 32, 52, 50, 49, 57, 32, 50, 49, 55]⟩, ⟨#[101, 120, 105, 116, 95, 103, 114, 111, 117, 112, 32, 52, 50, 52, 54, 32, 45, 49]⟩, ⟨#[99, 108, 111, 99, 107, 95, 103, 101, 116, 116, 105, 109, 101, 32, 52, 50, 54, 51, 32, 50, 50, 56]⟩, ⟨#[115, 101, 116, 95, 116, 104, 114, 101, 97, 100, 95, 97, 114, 101, 97, 32, 52, 50, 56, 51, 32, 45, 49]⟩, ⟨#[103, 101, 116, 114, 97, 110, 100, 111, 109, 32, 52, 51, 53, 51, 32, 51, 49, 56]⟩]
def callList : List S39 := [⟨⟨4001, (-1)⟩, ⟨#[101, 120, 105, 116]⟩⟩, ⟨⟨4003, 0⟩, ⟨#[114, 101, 97, 100]⟩⟩, ⟨⟨4004, 1⟩, ⟨#[119, 114, 105, 116, 101]⟩⟩, ⟨⟨4005, 2⟩, ⟨#[111, 112, 101, 110]⟩⟩, ⟨⟨4006, 3⟩, ⟨#[99, 108, 111, 115, 101]⟩⟩, ⟨⟨4010, 87⟩, ⟨#[117, 110, 108, 105, 110, 107]⟩⟩, ⟨⟨4012, 80⟩, ⟨#[99, 104, 100, 105, 114]⟩⟩, ⟨⟨4013, (-1)⟩, ⟨#[116, 105, 109, 101]⟩⟩, ⟨⟨4019, 8⟩, ⟨#[108, 115, 101, 101, 107]⟩⟩, ⟨⟨4020, 39⟩, ⟨#[103, 101, 116, 112, 105, 100]⟩⟩, ⟨⟨4024, (-1)⟩, ⟨#[103, 101, 116, 117, 105, 100]⟩⟩, ⟨⟨4033, 21⟩, ⟨#[97, 99, 99, 101, 115, 115]⟩⟩, ⟨⟨4037, (-1)⟩, ⟨#[107, 105, 108, 108]⟩⟩, ⟨⟨4038, 82⟩, ⟨#[114, 101, 110, 97, 109, 101]⟩⟩, ⟨⟨4039, 83⟩, ⟨#[109, 107, 100, 105, 114]⟩⟩, ⟨⟨4040, 84⟩, ⟨#[114, 109, 100, 105, 114]⟩⟩, ⟨⟨4041, 32⟩, ⟨#[100, 117, 112]⟩⟩, ⟨⟨4042, 22⟩, ⟨#[112, 105, 112, 101]⟩⟩, ⟨⟨4045, (-1)⟩, ⟨#[98, 114, 107]⟩⟩, ⟨⟨4049, (-1)⟩, ⟨#[103, 101, 116, 101, 117, 105, 100]⟩⟩, ⟨⟨4063, 33⟩, ⟨#[100, 117, 112, 50]⟩⟩, ⟨⟨4090, (-1)⟩, ⟨#[109, 109, 97, 112]⟩⟩, ⟨⟨4091, (-1)⟩, ⟨#[109, 117, 110, 109, 97, 112]⟩⟩, ⟨⟨4093, 77⟩, ⟨#[102, 116, 114, 117, 110, 99, 97, 116, 101]⟩⟩, ⟨⟨4119, (-1)⟩, ⟨#[115, 105, 103, 114, 101, 116, 117, 114, 110]⟩⟩, ⟨⟨4122, 63⟩, ⟨#[117, 110, 97, 109, 101]⟩⟩, ⟨⟨4125, (-1)⟩, ⟨#[109, 112, 114, 111, 116, 101, 99, 116]⟩⟩, ⟨⟨4140, (-1)⟩, ⟨#[108, 108, 115, 101, 101, 107]⟩⟩, ⟨⟨4145, (-1)⟩, ⟨#[114, 101, 97, 100, 118]⟩⟩, ⟨⟨4146, (-1)⟩, ⟨#[119, 114, 105, 116, 101, 118]⟩⟩, ⟨⟨4166, (-1)⟩, ⟨#[110, 97, 110, 111, 115, 108, 101, 101, 112]⟩⟩, ⟨⟨4193, (-1)⟩, ⟨#[114, 116, 95, 115, 105, 103, 114, 101, 116, 117, 114, 110]⟩⟩, ⟨⟨4194, (-1)⟩, ⟨#[114, 116, 95, 115, 105, 103, 97, 99, 116, 105, 111, 110]⟩⟩, ⟨⟨4195, (-1)⟩, ⟨#[114, 116, 95, 115, 105, 103, 112, 114, 111, 99, 109, 97, 115, 107]⟩⟩, ⟨⟨4196, (-1)⟩, ⟨#[114, 116, 95, 115, 105, 103, 112, 101, 110, 100, 105, 110, 103]⟩⟩, ⟨⟨4203, 79⟩, ⟨#[103, 101, 116, 99, 119, 100]⟩⟩, ⟨⟨4206, (-1)⟩, ⟨#[115, 105, 103, 97, 108, 116, 115, 116, 97, 99, 107]⟩⟩, ⟨⟨4210, (-1)⟩, ⟨#[109, 109, 97, 112, 50]⟩⟩, ⟨⟨4213, 4⟩, ⟨#[115, 116, 97, 116, 54, 52]⟩⟩, ⟨⟨4214, 4⟩, ⟨#[108, 115, 116, 97, 116, 54, 52]⟩⟩, ⟨⟨4215, 5⟩, ⟨#[102, 115, 116, 97, 116, 54, 52]⟩⟩, ⟨⟨4219, 217⟩, ⟨#[103, 101, 116, 100, 101, 110, 116, 115, 54, 52]⟩⟩, ⟨⟨4246, (-1)⟩, ⟨#[101, 120, 105, 116, 95, 103, 114, 111, 117, 112]⟩⟩, ⟨⟨4263, 228⟩, ⟨#[99, 108, 111, 99, 107, 95, 103, 101, 116, 116, 105, 109, 101]⟩⟩, ⟨⟨4283, (-1)⟩, ⟨#[115, 101, 116, 95, 116, 104, 114, 101, 97, 100, 95, 97, 114, 101, 97]⟩⟩, ⟨⟨4353, 318⟩, ⟨#[103, 101, 116, 114, 97, 110, 100, 111, 109]⟩⟩]
theorem list_inj : ∀ {a b : List ByteArray}, a.map (fun x => x.data.toList) = b.map (fun x => x.data.toList) → a = b
  | [], [], _ => rfl
  | [], _ :: _, h => by simp at h
  | _ :: _, [], h => by simp at h
  | x :: a, y :: b, h => by
    simp only [List.map_cons, List.cons.injEq] at h
    rw [WideShapes.bytes_inj h.1, list_inj h.2]
theorem callCount : Lib.countB callTable ⟨#[59]⟩ = 45 := by
  show Lib.count _ _ = 45
  decide +kernel
theorem callRows_of : Lib.splitB ⟨#[59]⟩ 0 45 callTable = callRows := by
  apply list_inj
  rw [Lib.splitB_data]
  decide +kernel
/-- a row of the table is a call's -/
def rowOk (s : ByteArray) (c : S39) : Bool := match Lib.fields s.data.toList with
  | [n, x, y] => n == c.f1.data.toList && Lib.atoi x == some c.f0.f0 && Lib.atoi y == some c.f0.f1 && decide (x.length ≤ 18) && decide (y.length ≤ 18) && s.data.toList.all (fun b => decide (b.toNat < 128)) && decide (s.data.toList.length < 1000)
  | _ => false
theorem rows_ok : (callRows.zip callList).all (fun p => rowOk p.1 p.2) = true := by decide +kernel
theorem row_at (k : Nat) (s : ByteArray) (c : S39) (hs : callRows[k]? = some s) (hc : callList[k]? = some c) :
    ∃ x y : ByteArray, wordsOf s = [c.f1, x, y] ∧ Lib.atoi x.data.toList = some c.f0.f0 ∧ Lib.atoi y.data.toList = some c.f0.f1 ∧ x.size ≤ 18 ∧ y.size ≤ 18 ∧ s.data.toList.all (fun b => decide (b.toNat < 128)) = true ∧ s.size < 1000 := by
  have h := List.all_eq_true.1 rows_ok (s, c) (List.mem_of_getElem? (i := k) (by rw [List.getElem?_zip_eq_some]; exact ⟨hs, hc⟩))
  unfold rowOk at h
  split at h
  · rename_i n x y e
    simp only [Bool.and_eq_true, beq_iff_eq, decide_eq_true_eq] at h
    obtain ⟨⟨⟨⟨⟨⟨h1, h2⟩, h3⟩, h4⟩, h5⟩, h6⟩, h7⟩ := h
    refine ⟨⟨x.toArray⟩, ⟨y.toArray⟩, ?_, h2, h3, h4, h5, h6, by simpa using h7⟩
    unfold wordsOf
    rw [e]
    simp only [List.map_cons, List.map_nil, List.cons.injEq, and_true]
    exact WideShapes.bytes_inj (by simpa using h1)
  · cases h
theorem split_table (w : World) (hL : Laid w) :
    Calls Tryd.prog 34 #[.string callTable, .string ⟨#[59]⟩] w fun e w' => e = .returned (.slice (some ⟨w.heap.size, 0, none⟩) 46 46) ∧ w' = w.alloc (.cells (callRows.map Value.string).toArray 9) := by
  obtain ⟨m, hm⟩ := hL.2
  refine (Tryd.strings_Split callTable ⟨#[59]⟩ m w (by decide +kernel) hm (by decide)).mono ?_
  rintro e w' ⟨rfl, rfl⟩
  rw [callCount, callRows_of]
  exact ⟨rfl, rfl⟩
-- HAND fn=ferry/xlat.calls ; rounds=0 ; making=1 ; laid=1
def xlat_calls.f : Option (List S39) := some callList
theorem atoi_calls (s : ByteArray) (n : Int) (hl : s.size ≤ 18) (h : Lib.atoi s.data.toList = some n) (w : World) :
    Calls Tryd.prog 36 #[.string s] w fun e w' => e = .returned (.tuple #[.int .i64 n, .nilIface]) ∧ Below w.heap.size w w' := by
  refine (Tryd.strconv_Atoi s n hl h w).mono ?_
  rintro e w' ⟨rfl, t, rfl⟩
  exact ⟨rfl, ⟨rfl, rfl, rfl, by rw [Lib.bytesWorld_size]; omega, fun j hj => Lib.bytesWorld_at_old _ _ _ j hj⟩⟩
theorem cell_row (W : World) (cs : Array Value) (t : TypeId) (j : Nat) (v : Value) (h : cs[j]? = some v) : (W.alloc (.cells cs t)).cell? ⟨W.heap.size, j, none⟩ = some v := by
  unfold World.cell?
  rw [show (W.alloc (.cells cs t)).heap[(Addr.mk W.heap.size j none).block]? = _ from World.alloc_heap_new W _]
  simpa using h
theorem callRows_length : callRows.length = 46 := by decide +kernel
theorem callList_length : callList.length = 46 := by decide +kernel
theorem infoCall : (Tryd.prog.info? 39).map (fun i => (i.zero, i.size, i.bytes)) = some (some (.agg #[(.int .i64 0), (.int .i64 0), (.string ⟨#[]⟩)]), 3, 32) := by kernel_rfl
set_option maxHeartbeats 8000000 in
set_option maxRecDepth 100000 in
theorem xlat_calls.calls (r : List S39) (w : World) (hL : Laid w) (h : xlat_calls.f = some r) :
    Calls Tryd.prog 30 #[] w fun e w' => ∃ v0_ : Value, e = .returned v0_ ∧ Kd.R k39 39 w' w.heap.size (fun _ => True) v0_ r ∧ Below w.heap.size w w' := by
  obtain rfl := Option.some.inj h
  clear h
  have SP := Lib.hid (fun w hL => split_table w hL)
  have FW := Lib.hid (fun s w hs ha hL => fields_words s w hs ha hL)
  have AT := Lib.hid (fun s n hl h w => atoi_calls s n hl h w)
  have RA := Lib.hid row_at
  have rl := Lib.hid callRows_length
  have cl := Lib.hid callList_length
  generalize callRows = rows at SP RA rl
  generalize callList = calls at RA cl ⊢
  go_enter Tryd.func30, Tryd.ntmps30
  go_wp2_with (go_at_call 34; refine (SP.out _ hL).mono ?_; rintro e w1 ⟨rfl, rfl⟩)
  have hb0 : Below w.heap.size w (w.alloc (.cells (rows.map Value.string).toArray 9)) := (Below.refl _ w).alloc (Nat.le_refl _) _
  go_loopw [1, 11] (fun v t wr => ∃ k : Nat, t = .int .i64 k ∧ k ≤ 46 ∧ Kd.R k39 39 wr w.heap.size (fun q => q ≠ w.heap.size) v (calls.take k) ∧ wr.heap[w.heap.size]? = some (.cells (rows.map Value.string).toArray 9 (0, 0)) ∧ w.heap.size < wr.heap.size ∧ Below w.heap.size w wr) (fun _ t _ => 46 - (intOf t).toNat)
  case atStart => exact ⟨0, rfl, Nat.zero_le _, Kd.R_nil _ _ _ _ _, World.alloc_heap_new w _, by simp, hb0⟩
  case round =>
    obtain ⟨k, rfl, hk, hR, hC, hsz, hB⟩ := hrel
    by_cases hlt : k < 46
    · have hr1 : rows[k]? = some (rows[k]'(by rw [rl.out]; exact hlt)) := List.getElem?_eq_getElem _
      have hc1 : calls[k]? = some (calls[k]'(by rw [cl.out]; exact hlt)) := List.getElem?_eq_getElem _
      generalize rows[k]'(by rw [rl.out]; exact hlt) = s at hr1
      generalize calls[k]'(by rw [cl.out]; exact hlt) = c at hc1
      obtain ⟨x, y, hw, hx, hy, hx8, hy8, hasc, hs⟩ := RA.out k s c hr1 hc1
      have d0 : wr.cell? ⟨w.heap.size, k, none⟩ = some (.string s) := by
        unfold World.cell?
        simp only [hC]
        simp [hr1]
      have FW2 := Lib.hid (FW.out s wr (by omega) hasc (Laid.below hL hB))
      rw [hw] at FW2
      have n0 := Lib.hid (cell_row wr (([c.f1, x, y] : List ByteArray).map Value.string).toArray 9 0 (.string c.f1) rfl)
      have n2 := Lib.hid (cell_row wr (([c.f1, x, y] : List ByteArray).map Value.string).toArray 9 2 (.string y) rfl)
      have hb2 : Below wr.heap.size wr (wr.alloc (.cells (([c.f1, x, y] : List ByteArray).map Value.string).toArray 9)) := (Below.refl _ wr).alloc (Nat.le_refl _) _
      have AX := Lib.hid (AT.out x c.f0.f0 hx8 hx)
      have AY := Lib.hid (AT.out y c.f0.f1 hy8 hy)
      have hC' := Lib.hid hC
      clear hw hx hy hx8 hy8 hasc hC
      have hT : calls.take (k + 1) = calls.take k ++ [c] := by
        rw [List.take_add_one, hc1]
        rfl
      have hl : (calls.take k).length = k := by rw [List.length_take, cl.out]; omega
      have hT' := Lib.hid hT
      have hl' := Lib.hid hl
      clear hT hl
      go_wp2_with (first
        | (go_at_call 35; (with_reducible refine FW2.out.mono ?_); rintro e w2 ⟨rfl, rfl⟩)
        | (go_at_call 36; (with_reducible refine (AX.out _).mono ?_); rintro e w3 ⟨rfl, hb3⟩; have m0 := (hb3.cell (p := ⟨wr.heap.size, 0, none⟩) (by simp)).trans n0.out; have m2 := (hb3.cell (p := ⟨wr.heap.size, 2, none⟩) (by simp)).trans n2.out; have z3 : wr.heap.size < w3.heap.size := Nat.lt_of_lt_of_le (by simp) hb3.size; have B3 := hb2.trans (hb3.mono hb2.size))
        | (go_at_call 36; (with_reducible refine (AY.out _).mono ?_); rintro e w4 ⟨rfl, hb4⟩; have p0 := (hb4.cell (p := ⟨wr.heap.size, 0, none⟩) z3).trans m0; have z4 : wr.heap.size < w4.heap.size := Nat.lt_of_lt_of_le z3 hb4.size; have B4 := B3.trans (hb4.mono B3.size))
        | ((with_reducible refine gate_builtin (b := .append) (xs := #[.tmp 31, .tmp 39]) rfl ?_); at_builtin; refine Kd.R_append k39 (w0 := w) w.heap.size rfl (.tmp 31) (.tmp 39) 50 39 (.agg #[(.int .i64 0), (.int .i64 0), (.string ⟨#[]⟩)]) 32 rfl Tryd.underlying50 infoCall rfl (by decide) (by decide) _ (calls.take k) c [.int .i64 c.f0.f0, .int .i64 c.f0.f1, .string c.f1] (fun q => q ≠ w.heap.size) (fun _ => False) rfl rfl (k39_mkM _ _ _ c) (fun _ hk => hk.elim) (fun q hq => by omega) (Kd.R_below hR B4) (hB.trans (B4.mono hB.size)) (by omega) (by rw [hl'.out]; omega) ?_; intro v1 w5 hR5 hb5 hg5 _))
      have hblk : w5.heap[w.heap.size]? = some (.cells (rows.map Value.string).toArray 9 (0, 0)) :=
        (hg5.block _ (by omega) (fun e => hR.1 _ e.symm rfl)).trans ((B4.block _ hsz).trans hC'.out)
      refine ⟨⟨k + 1, by go_num, hlt, by rw [hT'.out]; exact hR5, hblk, (Array.getElem?_eq_some_iff.1 hblk).1, hb5⟩, by simp [intOf]; omega⟩
    · have e4 : k = 46 := by omega
      subst e4
      have hl : calls.take 46 = calls := List.take_of_length_le (by rw [cl.out]; exact Nat.le_refl _)
      rw [hl] at hR
      clear hl
      go_wp2
      go_ret
      exact ⟨_, rfl, Kd.R_mono hR (fun _ _ => trivial), hB⟩
end Go.Proofs.YtijghmpapmfndaaDoor.F
