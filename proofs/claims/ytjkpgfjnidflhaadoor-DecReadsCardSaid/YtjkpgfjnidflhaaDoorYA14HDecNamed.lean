import Derived.Below
import Derived.Deep.Draws
import Derived.Deep.AppendLies
import Derived.Maps.AppendAt
import Derived.OwnWalk
import Derived.Laws.BytesArg
import Derived.Laws.MakeOwn
import Derived.Laws.OwnMore
import Derived.Deep.OwnRows
import Derived.Tactics
import Derived.Lib.ConvBytes
import Derived.Laws.Slices
import Derived.WalkKit
import Derived.KernelRfl
import Derived.RowKit3
import Derived.Deep.LoopGhost
import Derived.Deep.QuietTactic
import Derived.BigQuiet
import Derived.WideLaws
import Derived.Deep.DeepCutAuto
import Derived.Deep.CutBlock
import Derived.Deep.RegionHeld3
import Derived.Laws.Rows
import Derived.Lib.AppendStr
import Derived.ArgAppend
import Derived.Laws.IdiomCopy
import Derived.RowKit
import Derived.OrdersHeld
import Derived.Laws.BitsLemmas
import Derived.Laws.StructEq
import Derived.ProofKit
import Derived.Lib.Hide
import Derived.Maps.OwnOps
import Derived.RangeFuncRecord
import Derived.Shelf.LaysM
import Derived.Shelf.Strings.Replace
import Derived.Lib.LaidTab
import Derived.Shelf.Abstract
import Derived.OwnWalkIn
import Derived.WalkSmall
import Derived.Laws.ResultCell
import Derived.Shelf.RegionOpen
import Derived.Deep.RegionWith
import Derived.Test.YtjkpgfjnidflhaaDoorZF0
import Derived.Test.YtjkpgfjnidflhaaDoorYA3
import Derived.Test.YtjkpgfjnidflhaaDoorYA8HDecForms
import Derived.Test.YtjkpgfjnidflhaaDoorYA10HDecFind
import Derived.Test.YtjkpgfjnidflhaaDoorYA13FDecRows
section
namespace Go.Proofs.YtjkpgfjnidflhaaDoor.F
open Go.RowKit Go.Shelf Go.Proofs.YtjkpgfjnidflhaaDoorW.PrintWords Go.Proofs.YtjkpgfjnidflhaaDoorW.PrintLast Go.Proofs.YtjkpgfjnidflhaaDoorW.PrintMore
set_option linter.unusedVariables false
set_option linter.unusedSimpArgs false
def idxOf {α : Type} (p : α → Bool) : List α → Int
  | [] => -1
  | x :: l => if p x then 0 else (if idxOf p l < 0 then -1 else idxOf p l + 1)
theorem idxOf_none {α : Type} (p : α → Bool) : ∀ (l : List α), (∀ x ∈ l, p x = false) → idxOf p l = -1
  | [], _ => rfl
  | x :: l, h => by
    unfold idxOf
    rw [h x List.mem_cons_self, idxOf_none p l (fun y hy => h y (List.mem_cons_of_mem _ hy))]
    rfl
theorem idxOf_at {α : Type} (p : α → Bool) : ∀ (l : List α) (k : Nat) (hk : k < l.length), (∀ j (hj : j < k), p (l[j]'(by omega)) = false) → p l[k] = true → idxOf p l = k
  | x :: l, 0, _, _, h => by
    unfold idxOf
    exact if_pos h
  | x :: l, k + 1, hk, hn, h => by
    unfold idxOf
    have h0 : p x = false := hn 0 (by omega)
    have ih := idxOf_at p l k (by simpa using hk) (fun j hj => hn (j + 1) (by omega)) h
    rw [h0, ih, if_neg (by simp), if_neg (by omega)]
    omega
def foundOf {α : Type} (p : α → Bool) (z : α) : List α → α × Bool
  | [] => (z, false)
  | x :: l => if p x then (x, true) else foundOf p z l
theorem idxOf_found {α : Type} (p : α → Bool) (z : α) : ∀ (l : List α), (idxOf p l < 0 → (foundOf p z l).1 = z ∧ (foundOf p z l).2 = false) ∧ (¬ idxOf p l < 0 → (foundOf p z l).2 = true ∧ l[(idxOf p l).toNat]? = some (foundOf p z l).1)
  | [] => ⟨fun _ => ⟨rfl, rfl⟩, fun h => absurd (show (-1 : Int) < 0 by decide) h⟩
  | y :: l => by
    have ih := idxOf_found p z l
    unfold idxOf foundOf
    by_cases hy : p y = true
    · rw [if_pos hy, if_pos hy]
      exact ⟨fun h => absurd h (by decide), fun _ => ⟨rfl, rfl⟩⟩
    · rw [if_neg hy, if_neg hy]
      by_cases hi : idxOf p l < 0
      · rw [if_pos hi]
        exact ⟨fun _ => ih.1 hi, fun h => absurd (by decide) h⟩
      · rw [if_neg hi]
        have e : (idxOf p l + 1).toNat = (idxOf p l).toNat + 1 := by omega
        refine ⟨fun h => absurd h (by omega), fun _ => ⟨(ih.2 hi).1, ?_⟩⟩
        rw [e, List.getElem?_cons_succ]
        exact (ih.2 hi).2
theorem dres_ct {P : Program} {fn : Func} {p u : Tmp} {ty : TypeId} (h : fn.results = #[.cell p ty, .tmp u]) (tmps : Array Value) (w : World) (g : Nat) (t : TypeId) (cs : Array Value) (fr : Nat × Nat) (d : TypeDesc)
    (hp : tmps.getD p undef = .pointer (some ⟨g, 0, none⟩)) (hg : w.heap[g]? = some (.cells cs t fr))
    (hu : P.underlying ty = some d) (hd : (match d with | .struct _ | .array _ _ => true | _ => false) = true) (hi : (P.info? ty).map (·.size) = some cs.size) (v : Value) (hv : tmps.getD u undef = v) :
    (results fn tmps).run P w = .ok (.tuple #[.agg cs, v]) w := by
  have hp' : tmps[p]?.getD undef = .pointer (some ⟨g, 0, none⟩) := by simpa using hp
  have hv' : tmps[u]?.getD undef = v := by simpa using hv
  rw [results_cell_tmp h]
  simp [hp', hv', asAddr, run_loadVar_row w g t ty cs fr d hg hu hd hi, Result.andThen]
def decRows : List S38 := dec_rows.f.getD []
theorem rows_some : dec_rows.f = some decRows := by
  have h : dec_rows.f.isSome = true := by decide +kernel
  unfold decRows
  cases hh : dec_rows.f with
  | none => rw [hh] at h; cases h
  | some l => rfl
theorem rows_length : decRows.length = 83 := by decide +kernel
def infoAt (x : S38) : List UInt8 × List UInt8 × Int × Int := (infoOf x.f3.toList).getD ([], [], 0, 0)
theorem rows_forms : decRows.all (fun x => (infoOf x.f3.toList).isSome) = true := by decide +kernel
theorem info_at (x : S38) (hx : x ∈ decRows) : infoOf x.f3.toList = some (infoAt x) := by
  have h := List.all_eq_true.1 rows_forms x hx
  unfold infoAt
  cases hh : infoOf x.f3.toList with
  | none => rw [hh] at h; cases h
  | some l => rfl
set_option maxHeartbeats 4000000 in
theorem named_is.calls (x : S38) (pe : Addr) (e : ByteArray) (w : World) (hp : w.cell? pe = some (.string e)) (hlt : pe.block < w.heap.size) :
    Calls Tryd.prog 35 #[.agg #[.string x.f0, .int .u32 x.f1, .int .u32 x.f2, .string x.f3], .pointer (some pe)] w fun ex w' => ex = .returned (.bool (x.f0.toList == e.toList)) ∧ Below w.heap.size w w' := by
  go_enter Tryd.func35, Tryd.ntmps35
  go_wp2
  go_ret
  exact ⟨rfl, (Below.refl _ w).alloc (Nat.le_refl _) _⟩
def named_p (e : ByteArray) (x : S38) : Bool := x.f0.toList == e.toList
def decode_p (e : Int) (x : S38) : Bool := rowIs (infoAt x) x e
theorem decode_at (x : S38) (hx : x ∈ decRows) (pe : Addr) (e : Int) (w : World) (hL : Laid w) (hp : w.cell? pe = some (.int .u32 e)) (hlt : pe.block < w.heap.size) :
    Calls Tryd.prog 16 #[.agg #[.string x.f0, .int .u32 x.f1, .int .u32 x.f2, .string x.f3], .pointer (some pe)] w fun ex w' => ex = .returned (.bool (decode_p e x)) ∧ Below w.heap.size w w' :=
  decode_is.calls x pe e w hL hp hlt (infoAt x) (info_at x hx) _ rfl
theorem named_at (x : S38) (hx : x ∈ decRows) (pe : Addr) (e : ByteArray) (w : World) (hL : Laid w) (hp : w.cell? pe = some (.string e)) (hlt : pe.block < w.heap.size) :
    Calls Tryd.prog 35 #[.agg #[.string x.f0, .int .u32 x.f1, .int .u32 x.f2, .string x.f3], .pointer (some pe)] w fun ex w' => ex = .returned (.bool (named_p e x)) ∧ Below w.heap.size w w' :=
  named_is.calls x pe e w hp hlt
set_option maxHeartbeats 4000000 in
set_option maxRecDepth 100000 in
theorem named_idx.calls (A : Option Addr) (c : Nat) (l : List S38) (hsub : ∀ x ∈ l, x ∈ decRows) (pe : Addr) (e : ByteArray) (w : World) (hL : Laid w) (hr : Kd.C k38 w A l.length l) (hc : l.length ≤ c) (hl : l.length ≤ 1000000) (hp : w.cell? pe = some (.string e)) (hpb : pe.block < w.heap.size) :
    Calls Tryd.prog 26 #[.slice A l.length c, .func (.func 35) #[] #[.pointer (some pe)]] w fun ex w' => ex = .returned (.int .i64 (idxOf (named_p e) l)) ∧ Below w.heap.size w w' := by
  have HE := Lib.hid (fun x hx w hL h h' => named_at x (hsub x hx) pe e w hL h h')
  have HN := Lib.hid (fun h => idxOf_none (named_p e) l h)
  have HA := Lib.hid (fun k hk hn h => idxOf_at (named_p e) l k hk hn h)
  generalize idxOf (named_p e) l = R at HN HA ⊢
  generalize named_p e = P at HE HN HA
  have HR := Lib.hid hr
  have HL := Lib.hid hL
  clear hr hL hsub
  go_enter Tryd.func26, Tryd.ntmps26
  go_wp2
  go_loopw [8] (fun t wr => ∃ k : Nat, t = .int .i64 k ∧ k ≤ l.length ∧ (∀ j (hj : j < l.length), j < k → P l[j] = false) ∧ Below w.heap.size w wr) (fun t _ => l.length - (intOf t).toNat)
  case atStart => exact ⟨0, rfl, Nat.zero_le _, fun j _ hj => by omega, Below.refl _ _⟩
  case round =>
    obtain ⟨k, rfl, hk, hn, hB⟩ := hrel
    by_cases hlt : k < l.length
    · obtain ⟨ad, rfl, c0, c1, c2, c3⟩ := at_T38 (Kd.C_below HR.out hB) (k : Int) (by omega) (by omega)
      have hp' : wr.cell? pe = some (.string e) := (hB.cell hpb).trans hp
      have hx : rd_T38 l (k : Int) = l[k] := by
        unfold rd_T38
        simp [hlt]
      rw [hx, Int.toNat_natCast] at c0 c1 c2 c3
      have hB' := Nat.lt_of_lt_of_le hpb hB.size
      have hn' := Lib.hid hn
      have HL' := Lib.hid (Laid.below HL.out hB)
      clear hn hx
      cases hb : P l[k]
      · go_wp2_with (go_at_call 35; (with_reducible refine (HE.out l[k] (List.getElem_mem _) _ HL'.out hp' hB').mono ?_); rintro ex w2 ⟨rfl, hb2⟩)
        refine ⟨⟨k + 1, by go_num, hlt, fun j hj hjk => ?_, hB.trans (hb2.mono hB.size)⟩, by simp [intOf]; omega⟩
        rcases Nat.lt_or_ge j k with h1 | h1
        · exact hn'.out j hj h1
        · obtain rfl : j = k := by omega
          exact hb
      · have hR := HA.out k hlt (fun j hj => hn'.out j (by omega) hj) hb
        subst hR
        go_wp2_with (go_at_call 35; (with_reducible refine (HE.out l[k] (List.getElem_mem _) _ HL'.out hp' hB').mono ?_); rintro ex w2 ⟨rfl, hb2⟩)
        go_ret
        exact ⟨rfl, hB.trans (hb2.mono hB.size)⟩
    · have e4 : k = l.length := by omega
      have hR := HN.out (fun x hx => by
        obtain ⟨j, hj, rfl⟩ := List.getElem_of_mem hx
        exact hn j hj (by omega))
      subst hR
      clear hn HA HN
      subst e4
      go_wp2
      go_ret
      exact ⟨rfl, hB⟩
set_option maxHeartbeats 4000000 in
set_option maxRecDepth 100000 in
theorem named_find.calls (pe : Addr) (e : ByteArray) (w : World) (hL : Laid w) (hp : w.cell? pe = some (.string e)) (hpb : pe.block < w.heap.size) (x : S38) (b : Bool) (hx : foundOf (named_p e) z38 decRows = (x, b)) :
    Calls Tryd.prog 15 #[.func (.func 35) #[] #[.pointer (some pe)]] w fun ex w' => ex = .returned (.tuple #[.agg #[.string x.f0, .int .u32 x.f1, .int .u32 x.f2, .string x.f3], .bool b]) ∧ Below w.heap.size w w' := by
  have RW := Lib.hid (fun w => dec_rows.calls decRows w rows_some)
  have HI := Lib.hid (fun A c w hL hr hc hp hpb => named_idx.calls A c decRows (fun _ h => h) pe e w hL hr hc (by rw [rows_length]; decide) hp hpb)
  have hF := idxOf_found (named_p e) z38 decRows
  rw [hx] at hF
  have HF := Lib.hid hF
  have HL := Lib.hid hL
  clear hF hx hL
  generalize idxOf (named_p e) decRows = i at HI HF
  generalize decRows = L at HI HF RW
  have hb0 : Below w.heap.size w (w.alloc (.cells #[.string ⟨#[]⟩, .int .u32 0, .int .u32 0, .string ⟨#[]⟩] 38)) := (Below.refl _ w).alloc (Nat.le_refl _) _
  have R0 := Lib.hid (World.alloc_heap_new w (.cells #[.string ⟨#[]⟩, .int .u32 0, .int .u32 0, .string ⟨#[]⟩] 38))
  have r1 := Lib.hid ((hb0.cell hpb).trans hp)
  have r2 := Lib.hid (Nat.lt_of_lt_of_le hpb hb0.size)
  clear hp
  by_cases h0 : i < 0
  · obtain ⟨hx1, hx2⟩ := HF.out.1 h0
    dsimp only at hx1 hx2
    subst hx1 hx2
    have hd : decide (i ≥ 0) = false := decide_eq_false (by omega)
    have hd' : decide (0 ≤ i) = false := decide_eq_false (by omega)
    go_enter Tryd.func15, Tryd.ntmps15
    go_wp2_with (first
      | (go_at_call 25; (with_reducible refine (RW.out _).mono ?_); rintro ex w1 ⟨v0, rfl, hR, hb1⟩; obtain ⟨A, c, rfl, hcl, hC⟩ := Kd.R_reads hR; have k1 := (hb1.cell (p := pe) (by simp; omega)).trans r1.out; have k2 : pe.block < w1.heap.size := Nat.lt_of_lt_of_le r2.out hb1.size; have hB1 := hb0.trans (hb1.mono hb0.size); have g1 := (hb1.block w.heap.size (by simp)).trans R0.out; have s1 : w.heap.size < w1.heap.size := Nat.lt_of_lt_of_le (by simp) hb1.size; have HC1 := Lib.hid hC; clear hR hC)
      | (go_at_call 26; (with_reducible refine (HI.out A c w1 (Laid.below HL.out hB1) HC1.out hcl k1 k2).mono ?_); rintro ex w2 ⟨rfl, hb2⟩; have g0 := (hb2.block w.heap.size s1).trans g1; have hB := hB1.trans (hb2.mono hB1.size); have q0 : w2.cell? ⟨w.heap.size, 0, none⟩ = some (.string ⟨#[]⟩) := (by unfold World.cell?; rw [g0]; rfl); have u0 : w2.frozen? ⟨w.heap.size, 0, none⟩ = false := (by unfold World.frozen?; rw [g0]; rfl); have q1 : w2.cell? ⟨w.heap.size, 1, none⟩ = some (.int .u32 0) := (by unfold World.cell?; rw [g0]; rfl); have u1 : w2.frozen? ⟨w.heap.size, 1, none⟩ = false := (by unfold World.frozen?; rw [g0]; rfl); have q2 : w2.cell? ⟨w.heap.size, 2, none⟩ = some (.int .u32 0) := (by unfold World.cell?; rw [g0]; rfl); have u2 : w2.frozen? ⟨w.heap.size, 2, none⟩ = false := (by unfold World.frozen?; rw [g0]; rfl); have q3 : w2.cell? ⟨w.heap.size, 3, none⟩ = some (.string ⟨#[]⟩) := (by unfold World.cell?; rw [g0]; rfl); have u3 : w2.frozen? ⟨w.heap.size, 3, none⟩ = false := (by unfold World.frozen?; rw [g0]; rfl); have gx := Lib.hid g0; clear g0 g1))
    refine bodyPost_ret (dres_ct rfl _ _ w.heap.size 38 #[.string ⟨#[]⟩, .int .u32 0, .int .u32 0, .string ⟨#[]⟩] (0, 0) _ rfl ?_ Tryd.underlying38 rfl (by kernel_rfl) _ rfl) rfl ?_
    · refine blk_put (cs := #[.string ⟨#[]⟩, .int .u32 0, .int .u32 0, .string ⟨#[]⟩]) ?_ 3 _ rfl
      refine blk_put (cs := #[.string ⟨#[]⟩, .int .u32 0, .int .u32 0, .string ⟨#[]⟩]) ?_ 2 _ rfl
      refine blk_put (cs := #[.string ⟨#[]⟩, .int .u32 0, .int .u32 0, .string ⟨#[]⟩]) ?_ 1 _ rfl
      refine blk_put (cs := #[.string ⟨#[]⟩, .int .u32 0, .int .u32 0, .string ⟨#[]⟩]) ?_ 0 _ rfl
      exact gx.out
    · exact ⟨rfl, (Below.setCell (p := ⟨w.heap.size, 3, none⟩) (Below.setCell (p := ⟨w.heap.size, 2, none⟩) (Below.setCell (p := ⟨w.heap.size, 1, none⟩) (Below.setCell (p := ⟨w.heap.size, 0, none⟩) hB (Nat.le_refl _) _) (Nat.le_refl _) _) (Nat.le_refl _) _) (Nat.le_refl _) _)⟩
  · obtain ⟨hx1, hx2⟩ := HF.out.2 h0
    dsimp only at hx1 hx2
    subst hx1
    have hd : decide (i ≥ 0) = true := decide_eq_true (by omega)
    have hd' : decide (0 ≤ i) = true := decide_eq_true (by omega)
    have hil : i.toNat < L.length := (List.getElem?_eq_some_iff.1 hx2).1
    have hi1 : 0 ≤ i := by omega
    have hi2 : i < L.length := by omega
    have hrd : rd_T38 L i = x := by
      unfold rd_T38
      rw [List.getD_eq_getElem?_getD, hx2]
      rfl
    have AT := Lib.hid (fun (A : Option Addr) (w1 w2 : World) (hC : Kd.C k38 w1 A L.length L) (hB : Below w1.heap.size w1 w2) => at_T38 (Kd.C_below hC hB) i hi1 hi2)
    rw [hrd] at AT
    clear hx2 hrd
    go_enter Tryd.func15, Tryd.ntmps15
    go_wp2_with (first
      | (go_at_call 25; (with_reducible refine (RW.out _).mono ?_); rintro ex w1 ⟨v0, rfl, hR, hb1⟩; obtain ⟨A, c, rfl, hcl, hC⟩ := Kd.R_reads hR; have k1 := (hb1.cell (p := pe) (by simp; omega)).trans r1.out; have k2 : pe.block < w1.heap.size := Nat.lt_of_lt_of_le r2.out hb1.size; have hB1 := hb0.trans (hb1.mono hb0.size); have g1 := (hb1.block w.heap.size (by simp)).trans R0.out; have s1 : w.heap.size < w1.heap.size := Nat.lt_of_lt_of_le (by simp) hb1.size; have HC1 := Lib.hid hC; clear hR hC)
      | (go_at_call 26; (with_reducible refine (HI.out A c w1 (Laid.below HL.out hB1) HC1.out hcl k1 k2).mono ?_); rintro ex w2 ⟨rfl, hb2⟩; have g0 := (hb2.block w.heap.size s1).trans g1; have hB := hB1.trans (hb2.mono hB1.size); have q0 : w2.cell? ⟨w.heap.size, 0, none⟩ = some (.string ⟨#[]⟩) := (by unfold World.cell?; rw [g0]; rfl); have u0 : w2.frozen? ⟨w.heap.size, 0, none⟩ = false := (by unfold World.frozen?; rw [g0]; rfl); have q1 : w2.cell? ⟨w.heap.size, 1, none⟩ = some (.int .u32 0) := (by unfold World.cell?; rw [g0]; rfl); have u1 : w2.frozen? ⟨w.heap.size, 1, none⟩ = false := (by unfold World.frozen?; rw [g0]; rfl); have q2 : w2.cell? ⟨w.heap.size, 2, none⟩ = some (.int .u32 0) := (by unfold World.cell?; rw [g0]; rfl); have u2 : w2.frozen? ⟨w.heap.size, 2, none⟩ = false := (by unfold World.frozen?; rw [g0]; rfl); have q3 : w2.cell? ⟨w.heap.size, 3, none⟩ = some (.string ⟨#[]⟩) := (by unfold World.cell?; rw [g0]; rfl); have u3 : w2.frozen? ⟨w.heap.size, 3, none⟩ = false := (by unfold World.frozen?; rw [g0]; rfl); obtain ⟨ad, rfl, c0, c1, c2, c3⟩ := AT.out A w1 w2 HC1.out hb2; have gx := Lib.hid g0; clear g0 g1))
    refine bodyPost_ret (dres_ct rfl _ _ w.heap.size 38 #[.string x.f0, .int .u32 x.f1, .int .u32 x.f2, .string x.f3] (0, 0) _ rfl ?_ Tryd.underlying38 rfl (by kernel_rfl) _ rfl) rfl ?_
    · refine blk_put (cs := #[.string x.f0, .int .u32 x.f1, .int .u32 x.f2, .string ⟨#[]⟩]) ?_ 3 _ rfl
      refine blk_put (cs := #[.string x.f0, .int .u32 x.f1, .int .u32 0, .string ⟨#[]⟩]) ?_ 2 _ rfl
      refine blk_put (cs := #[.string x.f0, .int .u32 0, .int .u32 0, .string ⟨#[]⟩]) ?_ 1 _ rfl
      refine blk_put (cs := #[.string ⟨#[]⟩, .int .u32 0, .int .u32 0, .string ⟨#[]⟩]) ?_ 0 _ rfl
      exact gx.out
    · exact ⟨rfl, (Below.setCell (p := ⟨w.heap.size, 3, none⟩) (Below.setCell (p := ⟨w.heap.size, 2, none⟩) (Below.setCell (p := ⟨w.heap.size, 1, none⟩) (Below.setCell (p := ⟨w.heap.size, 0, none⟩) hB (Nat.le_refl _) _) (Nat.le_refl _) _) (Nat.le_refl _) _) (Nat.le_refl _) _)⟩
set_option maxHeartbeats 4000000 in
set_option maxRecDepth 100000 in
theorem decode_idx.calls (A : Option Addr) (c : Nat) (l : List S38) (hsub : ∀ x ∈ l, x ∈ decRows) (pe : Addr) (e : Int) (w : World) (hL : Laid w) (hr : Kd.C k38 w A l.length l) (hc : l.length ≤ c) (hl : l.length ≤ 1000000) (hp : w.cell? pe = some (.int .u32 e)) (hpb : pe.block < w.heap.size) :
    Calls Tryd.prog 26 #[.slice A l.length c, .func (.func 16) #[] #[.pointer (some pe)]] w fun ex w' => ex = .returned (.int .i64 (idxOf (decode_p e) l)) ∧ Below w.heap.size w w' := by
  have HE := Lib.hid (fun x hx w hL h h' => decode_at x (hsub x hx) pe e w hL h h')
  have HN := Lib.hid (fun h => idxOf_none (decode_p e) l h)
  have HA := Lib.hid (fun k hk hn h => idxOf_at (decode_p e) l k hk hn h)
  generalize idxOf (decode_p e) l = R at HN HA ⊢
  generalize decode_p e = P at HE HN HA
  have HR := Lib.hid hr
  have HL := Lib.hid hL
  clear hr hL hsub
  go_enter Tryd.func26, Tryd.ntmps26
  go_wp2
  go_loopw [8] (fun t wr => ∃ k : Nat, t = .int .i64 k ∧ k ≤ l.length ∧ (∀ j (hj : j < l.length), j < k → P l[j] = false) ∧ Below w.heap.size w wr) (fun t _ => l.length - (intOf t).toNat)
  case atStart => exact ⟨0, rfl, Nat.zero_le _, fun j _ hj => by omega, Below.refl _ _⟩
  case round =>
    obtain ⟨k, rfl, hk, hn, hB⟩ := hrel
    by_cases hlt : k < l.length
    · obtain ⟨ad, rfl, c0, c1, c2, c3⟩ := at_T38 (Kd.C_below HR.out hB) (k : Int) (by omega) (by omega)
      have hp' : wr.cell? pe = some (.int .u32 e) := (hB.cell hpb).trans hp
      have hx : rd_T38 l (k : Int) = l[k] := by
        unfold rd_T38
        simp [hlt]
      rw [hx, Int.toNat_natCast] at c0 c1 c2 c3
      have hB' := Nat.lt_of_lt_of_le hpb hB.size
      have hn' := Lib.hid hn
      have HL' := Lib.hid (Laid.below HL.out hB)
      clear hn hx
      cases hb : P l[k]
      · go_wp2_with (go_at_call 16; (with_reducible refine (HE.out l[k] (List.getElem_mem _) _ HL'.out hp' hB').mono ?_); rintro ex w2 ⟨rfl, hb2⟩)
        refine ⟨⟨k + 1, by go_num, hlt, fun j hj hjk => ?_, hB.trans (hb2.mono hB.size)⟩, by simp [intOf]; omega⟩
        rcases Nat.lt_or_ge j k with h1 | h1
        · exact hn'.out j hj h1
        · obtain rfl : j = k := by omega
          exact hb
      · have hR := HA.out k hlt (fun j hj => hn'.out j (by omega) hj) hb
        subst hR
        go_wp2_with (go_at_call 16; (with_reducible refine (HE.out l[k] (List.getElem_mem _) _ HL'.out hp' hB').mono ?_); rintro ex w2 ⟨rfl, hb2⟩)
        go_ret
        exact ⟨rfl, hB.trans (hb2.mono hB.size)⟩
    · have e4 : k = l.length := by omega
      have hR := HN.out (fun x hx => by
        obtain ⟨j, hj, rfl⟩ := List.getElem_of_mem hx
        exact hn j hj (by omega))
      subst hR
      clear hn HA HN
      subst e4
      go_wp2
      go_ret
      exact ⟨rfl, hB⟩
set_option maxHeartbeats 4000000 in
set_option maxRecDepth 100000 in
theorem decode_find.calls (pe : Addr) (e : Int) (w : World) (hL : Laid w) (hp : w.cell? pe = some (.int .u32 e)) (hpb : pe.block < w.heap.size) (x : S38) (b : Bool) (hx : foundOf (decode_p e) z38 decRows = (x, b)) :
    Calls Tryd.prog 15 #[.func (.func 16) #[] #[.pointer (some pe)]] w fun ex w' => ex = .returned (.tuple #[.agg #[.string x.f0, .int .u32 x.f1, .int .u32 x.f2, .string x.f3], .bool b]) ∧ Below w.heap.size w w' := by
  have RW := Lib.hid (fun w => dec_rows.calls decRows w rows_some)
  have HI := Lib.hid (fun A c w hL hr hc hp hpb => decode_idx.calls A c decRows (fun _ h => h) pe e w hL hr hc (by rw [rows_length]; decide) hp hpb)
  have hF := idxOf_found (decode_p e) z38 decRows
  rw [hx] at hF
  have HF := Lib.hid hF
  have HL := Lib.hid hL
  clear hF hx hL
  generalize idxOf (decode_p e) decRows = i at HI HF
  generalize decRows = L at HI HF RW
  have hb0 : Below w.heap.size w (w.alloc (.cells #[.string ⟨#[]⟩, .int .u32 0, .int .u32 0, .string ⟨#[]⟩] 38)) := (Below.refl _ w).alloc (Nat.le_refl _) _
  have R0 := Lib.hid (World.alloc_heap_new w (.cells #[.string ⟨#[]⟩, .int .u32 0, .int .u32 0, .string ⟨#[]⟩] 38))
  have r1 := Lib.hid ((hb0.cell hpb).trans hp)
  have r2 := Lib.hid (Nat.lt_of_lt_of_le hpb hb0.size)
  clear hp
  by_cases h0 : i < 0
  · obtain ⟨hx1, hx2⟩ := HF.out.1 h0
    dsimp only at hx1 hx2
    subst hx1 hx2
    have hd : decide (i ≥ 0) = false := decide_eq_false (by omega)
    have hd' : decide (0 ≤ i) = false := decide_eq_false (by omega)
    go_enter Tryd.func15, Tryd.ntmps15
    go_wp2_with (first
      | (go_at_call 25; (with_reducible refine (RW.out _).mono ?_); rintro ex w1 ⟨v0, rfl, hR, hb1⟩; obtain ⟨A, c, rfl, hcl, hC⟩ := Kd.R_reads hR; have k1 := (hb1.cell (p := pe) (by simp; omega)).trans r1.out; have k2 : pe.block < w1.heap.size := Nat.lt_of_lt_of_le r2.out hb1.size; have hB1 := hb0.trans (hb1.mono hb0.size); have g1 := (hb1.block w.heap.size (by simp)).trans R0.out; have s1 : w.heap.size < w1.heap.size := Nat.lt_of_lt_of_le (by simp) hb1.size; have HC1 := Lib.hid hC; clear hR hC)
      | (go_at_call 26; (with_reducible refine (HI.out A c w1 (Laid.below HL.out hB1) HC1.out hcl k1 k2).mono ?_); rintro ex w2 ⟨rfl, hb2⟩; have g0 := (hb2.block w.heap.size s1).trans g1; have hB := hB1.trans (hb2.mono hB1.size); have q0 : w2.cell? ⟨w.heap.size, 0, none⟩ = some (.string ⟨#[]⟩) := (by unfold World.cell?; rw [g0]; rfl); have u0 : w2.frozen? ⟨w.heap.size, 0, none⟩ = false := (by unfold World.frozen?; rw [g0]; rfl); have q1 : w2.cell? ⟨w.heap.size, 1, none⟩ = some (.int .u32 0) := (by unfold World.cell?; rw [g0]; rfl); have u1 : w2.frozen? ⟨w.heap.size, 1, none⟩ = false := (by unfold World.frozen?; rw [g0]; rfl); have q2 : w2.cell? ⟨w.heap.size, 2, none⟩ = some (.int .u32 0) := (by unfold World.cell?; rw [g0]; rfl); have u2 : w2.frozen? ⟨w.heap.size, 2, none⟩ = false := (by unfold World.frozen?; rw [g0]; rfl); have q3 : w2.cell? ⟨w.heap.size, 3, none⟩ = some (.string ⟨#[]⟩) := (by unfold World.cell?; rw [g0]; rfl); have u3 : w2.frozen? ⟨w.heap.size, 3, none⟩ = false := (by unfold World.frozen?; rw [g0]; rfl); have gx := Lib.hid g0; clear g0 g1))
    refine bodyPost_ret (dres_ct rfl _ _ w.heap.size 38 #[.string ⟨#[]⟩, .int .u32 0, .int .u32 0, .string ⟨#[]⟩] (0, 0) _ rfl ?_ Tryd.underlying38 rfl (by kernel_rfl) _ rfl) rfl ?_
    · refine blk_put (cs := #[.string ⟨#[]⟩, .int .u32 0, .int .u32 0, .string ⟨#[]⟩]) ?_ 3 _ rfl
      refine blk_put (cs := #[.string ⟨#[]⟩, .int .u32 0, .int .u32 0, .string ⟨#[]⟩]) ?_ 2 _ rfl
      refine blk_put (cs := #[.string ⟨#[]⟩, .int .u32 0, .int .u32 0, .string ⟨#[]⟩]) ?_ 1 _ rfl
      refine blk_put (cs := #[.string ⟨#[]⟩, .int .u32 0, .int .u32 0, .string ⟨#[]⟩]) ?_ 0 _ rfl
      exact gx.out
    · exact ⟨rfl, (Below.setCell (p := ⟨w.heap.size, 3, none⟩) (Below.setCell (p := ⟨w.heap.size, 2, none⟩) (Below.setCell (p := ⟨w.heap.size, 1, none⟩) (Below.setCell (p := ⟨w.heap.size, 0, none⟩) hB (Nat.le_refl _) _) (Nat.le_refl _) _) (Nat.le_refl _) _) (Nat.le_refl _) _)⟩
  · obtain ⟨hx1, hx2⟩ := HF.out.2 h0
    dsimp only at hx1 hx2
    subst hx1
    have hd : decide (i ≥ 0) = true := decide_eq_true (by omega)
    have hd' : decide (0 ≤ i) = true := decide_eq_true (by omega)
    have hil : i.toNat < L.length := (List.getElem?_eq_some_iff.1 hx2).1
    have hi1 : 0 ≤ i := by omega
    have hi2 : i < L.length := by omega
    have hrd : rd_T38 L i = x := by
      unfold rd_T38
      rw [List.getD_eq_getElem?_getD, hx2]
      rfl
    have AT := Lib.hid (fun (A : Option Addr) (w1 w2 : World) (hC : Kd.C k38 w1 A L.length L) (hB : Below w1.heap.size w1 w2) => at_T38 (Kd.C_below hC hB) i hi1 hi2)
    rw [hrd] at AT
    clear hx2 hrd
    go_enter Tryd.func15, Tryd.ntmps15
    go_wp2_with (first
      | (go_at_call 25; (with_reducible refine (RW.out _).mono ?_); rintro ex w1 ⟨v0, rfl, hR, hb1⟩; obtain ⟨A, c, rfl, hcl, hC⟩ := Kd.R_reads hR; have k1 := (hb1.cell (p := pe) (by simp; omega)).trans r1.out; have k2 : pe.block < w1.heap.size := Nat.lt_of_lt_of_le r2.out hb1.size; have hB1 := hb0.trans (hb1.mono hb0.size); have g1 := (hb1.block w.heap.size (by simp)).trans R0.out; have s1 : w.heap.size < w1.heap.size := Nat.lt_of_lt_of_le (by simp) hb1.size; have HC1 := Lib.hid hC; clear hR hC)
      | (go_at_call 26; (with_reducible refine (HI.out A c w1 (Laid.below HL.out hB1) HC1.out hcl k1 k2).mono ?_); rintro ex w2 ⟨rfl, hb2⟩; have g0 := (hb2.block w.heap.size s1).trans g1; have hB := hB1.trans (hb2.mono hB1.size); have q0 : w2.cell? ⟨w.heap.size, 0, none⟩ = some (.string ⟨#[]⟩) := (by unfold World.cell?; rw [g0]; rfl); have u0 : w2.frozen? ⟨w.heap.size, 0, none⟩ = false := (by unfold World.frozen?; rw [g0]; rfl); have q1 : w2.cell? ⟨w.heap.size, 1, none⟩ = some (.int .u32 0) := (by unfold World.cell?; rw [g0]; rfl); have u1 : w2.frozen? ⟨w.heap.size, 1, none⟩ = false := (by unfold World.frozen?; rw [g0]; rfl); have q2 : w2.cell? ⟨w.heap.size, 2, none⟩ = some (.int .u32 0) := (by unfold World.cell?; rw [g0]; rfl); have u2 : w2.frozen? ⟨w.heap.size, 2, none⟩ = false := (by unfold World.frozen?; rw [g0]; rfl); have q3 : w2.cell? ⟨w.heap.size, 3, none⟩ = some (.string ⟨#[]⟩) := (by unfold World.cell?; rw [g0]; rfl); have u3 : w2.frozen? ⟨w.heap.size, 3, none⟩ = false := (by unfold World.frozen?; rw [g0]; rfl); obtain ⟨ad, rfl, c0, c1, c2, c3⟩ := AT.out A w1 w2 HC1.out hb2; have gx := Lib.hid g0; clear g0 g1))
    refine bodyPost_ret (dres_ct rfl _ _ w.heap.size 38 #[.string x.f0, .int .u32 x.f1, .int .u32 x.f2, .string x.f3] (0, 0) _ rfl ?_ Tryd.underlying38 rfl (by kernel_rfl) _ rfl) rfl ?_
    · refine blk_put (cs := #[.string x.f0, .int .u32 x.f1, .int .u32 x.f2, .string ⟨#[]⟩]) ?_ 3 _ rfl
      refine blk_put (cs := #[.string x.f0, .int .u32 x.f1, .int .u32 0, .string ⟨#[]⟩]) ?_ 2 _ rfl
      refine blk_put (cs := #[.string x.f0, .int .u32 0, .int .u32 0, .string ⟨#[]⟩]) ?_ 1 _ rfl
      refine blk_put (cs := #[.string ⟨#[]⟩, .int .u32 0, .int .u32 0, .string ⟨#[]⟩]) ?_ 0 _ rfl
      exact gx.out
    · exact ⟨rfl, (Below.setCell (p := ⟨w.heap.size, 3, none⟩) (Below.setCell (p := ⟨w.heap.size, 2, none⟩) (Below.setCell (p := ⟨w.heap.size, 1, none⟩) (Below.setCell (p := ⟨w.heap.size, 0, none⟩) hB (Nat.le_refl _) _) (Nat.le_refl _) _) (Nat.le_refl _) _) (Nat.le_refl _) _)⟩
end Go.Proofs.YtjkpgfjnidflhaaDoor.F
end
