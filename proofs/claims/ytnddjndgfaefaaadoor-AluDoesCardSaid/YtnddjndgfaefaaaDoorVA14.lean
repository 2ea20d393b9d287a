import Derived.Below
import Derived.Deep.Draws
import Derived.Deep.AppendLies
import Derived.Maps.AppendAt
import Derived.OwnWalk
import Derived.Laws.BytesArg
import Derived.Laws.MakeOwn
import Derived.Laws.OwnMore
import Derived.Deep.OwnRows
import Derived.Tactics
import Derived.Lib.ConvBytes
import Derived.Laws.Slices
import Derived.WalkKit
import Derived.KernelRfl
import Derived.RowKit3
import Derived.Deep.LoopGhost
import Derived.Deep.QuietTactic
import Derived.BigQuiet
import Derived.WideLaws
import Derived.Deep.DeepCutAuto
import Derived.Deep.CutBlock
import Derived.Deep.RegionHeld3
import Derived.Laws.Rows
import Derived.Lib.AppendStr
import Derived.ArgAppend
import Derived.Laws.IdiomCopy
import Derived.RowKit
import Derived.OrdersHeld
import Derived.Laws.BitsLemmas
import Derived.Laws.StructEq
import Derived.Shelf.Small.Bits
import Derived.Shelf.LaysM
import Derived.Shelf.Strings.Fields
import Derived.Shelf.Strings.Replace
import Derived.Shelf.Strings.SplitShaped
import Derived.Lib.LaidTab
import Derived.Shelf.Abstract
import Derived.RangeFuncRecord
import Derived.ProofKit
import Derived.Lib.Hide
import Derived.Maps.OwnOps
import Derived.OwnWalkIn
import Derived.WalkSmall
import Derived.Laws.ResultCell
import Derived.Shelf.RegionOpen
import Derived.Deep.RegionWith
import Derived.Test.YtnddjndgfaefaaaDoorVZF0
import Derived.Test.YtnddjndgfaefaaaDoorVA0
import Derived.Test.YtnddjndgfaefaaaDoorVA3HDecTake
import Derived.Test.YtnddjndgfaefaaaDoorVA9HDecLay
import Derived.Test.YtnddjndgfaefaaaDoorVA10HDecForms
import Derived.Test.YtnddjndgfaefaaaDoorVA12FDecPlain
import Derived.Test.YtnddjndgfaefaaaDoorVA13FDecOthers
section
namespace Go.Proofs.YtnddjndgfaefaaaDoor.F
open Go.RowKit Go.Proofs.YtnddjndgfaefaaaDoorW.PrintWords Go.Proofs.YtnddjndgfaefaaaDoorW.PrintLast Go.Proofs.YtnddjndgfaefaaaDoorW.PrintMore
attribute [local go_sem] max2_int min2_int max_two min_two max_three min_three max_four min_four
set_option linter.unusedVariables false
set_option linter.unusedSimpArgs false

def dec_rows.f  : Option ((List (S51))) := (dec_plain.f).bind fun t112 => ((dec_others.f).bind fun t115 => (if t112.length + t115.length < 3518437208883 then (some (t112 ++ t115)) else (none)))
set_option maxHeartbeats 8000000 in
set_option maxRecDepth 100000 in
theorem dec_rows.calls  (r : List (S51)) (w : World) (h : dec_rows.f  = some r) :
    Calls Tryd.prog 68 #[] w fun e w' => ∃ v0_ : Value, e = .returned (v0_) ∧ Kd.R k51 51 w' w.heap.size (fun _ => True) v0_ r ∧ Below w.heap.size w w' := by
  have HB := Aside0.mk (Below.refl w.heap.size w)
  have H : ((dec_plain.f).bind fun t112 => ((dec_others.f).bind fun t115 => (if t112.length + t115.length < 3518437208883 then (some (t112 ++ t115)) else (none)))) = some r := h
  clear h
  replace H := Option.bind_eq_some_iff.mp H
  obtain ⟨t112, A10, H⟩ := H
  replace H : ((dec_others.f).bind fun t115 => (if t112.length + t115.length < 3518437208883 then (some (t112 ++ t115)) else (none))) = some r := H
  have A1 := Aside0.mk A10
  clear A10
  replace H := Option.bind_eq_some_iff.mp H
  obtain ⟨t115, A20, H⟩ := H
  replace H : (if t112.length + t115.length < 3518437208883 then (some (t112 ++ t115)) else (none)) = some r := H
  have A2 := Aside0.mk A20
  clear A20
  by_cases c3 : t112.length + t115.length < 3518437208883
  · rw [if_pos c3] at H
    have LMc3 := Aside0.mk c3
    clear c3
    obtain ⟨y118, hy118⟩ : ∃ y_ : List (S51), y_ = (t112 ++ t115) := ⟨_, rfl⟩
    replace H : (some y118) = some r := by first | (rw [hy118]; with_reducible exact H) | (have H2_ := (Option.bind_some _ _).symm.trans H; rw [hy118]; with_reducible exact H2_) | (have H2_ := (Option.bind_some _ _).symm.trans H; with_reducible exact H2_) | with_reducible exact H | (rw [hy118]; exact H) | exact H
    have Ny118 := Aside0.mk hy118
    clear hy118
    obtain rfl := Option.some.inj H
    go_enter Tryd.func68, Tryd.ntmps68
    go_wp2_with (first | ((with_reducible refine gate_callee (f := 77) rfl ?_); refine goesL_ (some 1) rfl rfl Tryd.func77 (by kernel_rfl) rfl #[] rfl (by (try simp only [List.map_toArray, List.map_cons, List.map_nil]); first | done | rfl | (simp only [List.length_drop, List.length_take]; rfl)) ?_; (with_reducible refine (dec_plain.calls  t112 _ A1.out).mono ?_); rintro e w4 ⟨v113, rfl, ho0, hb⟩; refine ⟨_, rfl, ?_⟩; have n0_ := Aside0.mk (Kd.R_lower ho0 (below_size (by repeat (first | (with_reducible first | exact HB.out | apply below_alloc | apply pw_below_drewN | apply below_drew1) | exact HB.out)))); have n1_ := Aside0.mk (below_step (by repeat (first | (with_reducible first | exact HB.out | apply below_alloc | apply pw_below_drewN | apply below_drew1) | exact HB.out)) hb); clear HB; have HO114 := n0_; have HB := n1_; clear n0_ n1_; (try clear hb); (try clear hb2); (try clear hk); (try clear hi); (try clear ho0)) | ((with_reducible refine gate_callee (f := 78) rfl ?_); refine goesL_ (some 2) rfl rfl Tryd.func78 (by kernel_rfl) rfl #[] rfl (by (try simp only [List.map_toArray, List.map_cons, List.map_nil]); first | done | rfl | (simp only [List.length_drop, List.length_take]; rfl)) ?_; (with_reducible refine (dec_others.calls  t115 _ A2.out).mono ?_); rintro e w5 ⟨v116, rfl, ho0, hb⟩; refine ⟨_, rfl, ?_⟩; have n0_ := Aside0.mk (Kd.R_elder' (by (with_reducible repeat (first | apply Kd.R_alloc | apply Kd.R_drewN | apply Kd.R_drew)); exact HO114.out) (Kd.R_base ho0) hb); have n1_ := Aside0.mk (Kd.R_lower (Kd.R_new' ho0 (Kd.R_lt (by (with_reducible repeat (first | apply Kd.R_alloc | apply Kd.R_drewN | apply Kd.R_drew)); exact HO114.out))) (below_size (by repeat (first | (with_reducible first | exact HB.out | apply below_alloc | apply pw_below_drewN | apply below_drew1) | exact HB.out)))); have n2_ := Aside0.mk (below_step (by repeat (first | (with_reducible first | exact HB.out | apply below_alloc | apply pw_below_drewN | apply below_drew1) | exact HB.out)) hb); clear HO114; clear HB; have HO114 := n0_; have HO117 := n1_; have HB := n2_; clear n0_ n1_ n2_; (try clear hb); (try clear hb2); (try clear hk); (try clear hi); (try clear ho0); obtain ⟨Ao7, co7, eo7⟩ := Kd.R_slice HO117.out; subst eo7) | ((with_reducible refine gate_builtin (b := .append) (xs := #[.tmp 1, .tmp 2]) rfl ?_); at_builtin; refine Kd.R_append_rows k51 (w0 := w) w.heap.size rfl (.tmp 1) (.tmp 2) 91 51 (.agg #[(.string ⟨#[]⟩), (.int .u32 0), (.int .u32 0), (.string ⟨#[]⟩)]) 40 rfl Tryd.underlying91 info51 rfl (by decide) (by omega) v113 t112 t115 _ _ _ (fun k_ => some k_ ≠ (.slice Ao7 t115.length co7 : Value).ownBlock) (fun _ => False) rfl rfl ?aO ?aR (fun _ _ h => h) (fun _ h => h.elim) ?aF ?aB ?aS ?aL ?_; (case aR => repeat (first | exact (Kd.R_reads' HO117.out).2.2 | (with_reducible refine Kd.C_alloc ?_ _) | (with_reducible refine Kd.C_drewN ?_ _) | (with_reducible refine Kd.C_drew ?_))); (case aB => exact (by repeat (first | (with_reducible first | exact HB.out | apply below_alloc | apply pw_below_drewN | apply below_drew1) | exact HB.out))); (case aF => exact (fun k_ hk => Kd.fresh' (Kd.R_lt (by (with_reducible repeat (first | apply Kd.R_alloc | apply Kd.R_drewN | apply Kd.R_drew)); exact HO117.out)) k_ hk)); (case aO => exact (by (with_reducible repeat (first | apply Kd.R_alloc | apply Kd.R_drewN | apply Kd.R_drew)); exact Kd.R_mono HO114.out (fun _ hk => hk.2))); (case aS => exact (below_size (by repeat (first | (with_reducible first | exact HB.out | apply below_alloc | apply pw_below_drewN | apply below_drew1) | exact HB.out)))); (case aL => have := LMc3.out; omega); intro v119 w6 ho hb hg hat; rw [← Ny118.out] at ho; have n0_ := Aside0.mk (Kd.R_after (ok := (fun _ => True)) (by (with_reducible repeat (first | apply Kd.R_alloc | apply Kd.R_drewN | apply Kd.R_drew)); exact HO117.out) hg hat); have n1_ := Aside0.mk (hb); have n2_ := Aside0.mk (ho); clear HO117; clear HB; clear HO114; have HO117 := n0_; have HB := n1_; have HO120 := n2_; clear n0_ n1_ n2_; clear ho hb hg hat))
    go_ret
    exact ⟨_, by first | rfl | (simp [errW_none, errW_some] <;> rfl) | (simp [*, errW_none, errW_some] <;> rfl), by (with_reducible repeat (first | apply Kd.R_alloc | apply Kd.R_drewN | apply Kd.R_drew)); exact Kd.R_mono HO120.out (fun _ hk => trivial), by repeat (first | (with_reducible first | exact HB.out | apply below_alloc | apply pw_below_drewN | apply below_drew1) | exact HB.out)⟩
  rw [if_neg c3] at H
  exact absurd H (by simp)

end Go.Proofs.YtnddjndgfaefaaaDoor.F
end
section
namespace Go.Proofs.YtnddjndgfaefaaaDoor.F
open Go.RowKit Go.Shelf Go.Proofs.YtnddjndgfaefaaaDoorW.PrintWords Go.Proofs.YtnddjndgfaefaaaDoorW.PrintLast Go.Proofs.YtnddjndgfaefaaaDoorW.PrintMore
set_option linter.unusedVariables false
set_option linter.unusedSimpArgs false
def idxOf {α : Type} (p : α → Bool) : List α → Int
  | [] => -1
  | x :: l => if p x then 0 else (if idxOf p l < 0 then -1 else idxOf p l + 1)
theorem idxOf_none {α : Type} (p : α → Bool) : ∀ (l : List α), (∀ x ∈ l, p x = false) → idxOf p l = -1
  | [], _ => rfl
  | x :: l, h => by
    unfold idxOf
    rw [h x List.mem_cons_self, idxOf_none p l (fun y hy => h y (List.mem_cons_of_mem _ hy))]
    rfl
theorem idxOf_at {α : Type} (p : α → Bool) : ∀ (l : List α) (k : Nat) (hk : k < l.length), (∀ j (hj : j < k), p (l[j]'(by omega)) = false) → p l[k] = true → idxOf p l = k
  | x :: l, 0, _, _, h => by
    unfold idxOf
    exact if_pos h
  | x :: l, k + 1, hk, hn, h => by
    unfold idxOf
    have h0 : p x = false := hn 0 (by omega)
    have ih := idxOf_at p l k (by simpa using hk) (fun j hj => hn (j + 1) (by omega)) h
    rw [h0, ih, if_neg (by simp), if_neg (by omega)]
    omega
def foundOf {α : Type} (p : α → Bool) (z : α) : List α → α × Bool
  | [] => (z, false)
  | x :: l => if p x then (x, true) else foundOf p z l
theorem idxOf_found {α : Type} (p : α → Bool) (z : α) : ∀ (l : List α), (idxOf p l < 0 → (foundOf p z l).1 = z ∧ (foundOf p z l).2 = false) ∧ (¬ idxOf p l < 0 → (foundOf p z l).2 = true ∧ l[(idxOf p l).toNat]? = some (foundOf p z l).1)
  | [] => ⟨fun _ => ⟨rfl, rfl⟩, fun h => absurd (show (-1 : Int) < 0 by decide) h⟩
  | y :: l => by
    have ih := idxOf_found p z l
    unfold idxOf foundOf
    by_cases hy : p y = true
    · rw [if_pos hy, if_pos hy]
      exact ⟨fun h => absurd h (by decide), fun _ => ⟨rfl, rfl⟩⟩
    rw [if_neg hy, if_neg hy]
    by_cases hi : idxOf p l < 0
    · rw [if_pos hi]
      exact ⟨fun _ => ih.1 hi, fun h => absurd (by decide) h⟩
    rw [if_neg hi]
    have e : (idxOf p l + 1).toNat = (idxOf p l).toNat + 1 := by omega
    refine ⟨fun h => absurd h (by omega), fun _ => ⟨(ih.2 hi).1, ?_⟩⟩
    rw [e, List.getElem?_cons_succ]
    exact (ih.2 hi).2
theorem dres_ct {P : Program} {fn : Func} {p u : Tmp} {ty : TypeId} (h : fn.results = #[.cell p ty, .tmp u]) (tmps : Array Value) (w : World) (g : Nat) (t : TypeId) (cs : Array Value) (fr : Nat × Nat) (d : TypeDesc)
    (hp : tmps.getD p undef = .pointer (some ⟨g, 0, none⟩)) (hg : w.heap[g]? = some (.cells cs t fr))
    (hu : P.underlying ty = some d) (hd : (match d with | .struct _ | .array _ _ => true | _ => false) = true) (hi : (P.info? ty).map (·.size) = some cs.size) (v : Value) (hv : tmps.getD u undef = v) :
    (results fn tmps).run P w = .ok (.tuple #[.agg cs, v]) w := by
  have hp' : tmps[p]?.getD undef = .pointer (some ⟨g, 0, none⟩) := by simpa using hp
  have hv' : tmps[u]?.getD undef = v := by simpa using hv
  rw [results_cell_tmp h]
  simp [hp', hv', asAddr, run_loadVar_row w g t ty cs fr d hg hu hd hi, Result.andThen]
def decRows : List S51 := dec_rows.f.getD []
theorem rows_some : dec_rows.f = some decRows := by
  have h : dec_rows.f.isSome = true := by decide +kernel
  unfold decRows
  cases hh : dec_rows.f with
  | none => rw [hh] at h; cases h
  | some l => rfl
theorem rows_length : decRows.length = 83 := by decide +kernel
def infoAt (x : S51) : List UInt8 × List UInt8 × Int × Int := (infoOf x.f3.toList).getD ([], [], 0, 0)
theorem rows_forms : decRows.all (fun x => (infoOf x.f3.toList).isSome) = true := by decide +kernel
theorem info_at (x : S51) (hx : x ∈ decRows) : infoOf x.f3.toList = some (infoAt x) := by
  have h := List.all_eq_true.1 rows_forms x hx
  unfold infoAt
  cases hh : infoOf x.f3.toList with
  | none => rw [hh] at h; cases h
  | some l => rfl
set_option maxHeartbeats 4000000 in
theorem named_is.calls (x : S51) (pe : Addr) (e : ByteArray) (w : World) (hp : w.cell? pe = some (.string e)) (hlt : pe.block < w.heap.size) :
    Calls Tryd.prog 50 #[.agg #[.string x.f0, .int .u32 x.f1, .int .u32 x.f2, .string x.f3], .pointer (some pe)] w fun ex w' => ex = .returned (.bool (x.f0.toList == e.toList)) ∧ Below w.heap.size w w' := by
  go_enter Tryd.func50, Tryd.ntmps50
  go_wp2
  go_ret
  exact ⟨rfl, (Below.refl _ w).alloc (Nat.le_refl _) _⟩
def named_p (e : ByteArray) (x : S51) : Bool := x.f0.toList == e.toList
theorem named_at (x : S51) (hx : x ∈ decRows) (pe : Addr) (e : ByteArray) (w : World) (hL : Laid w) (hp : w.cell? pe = some (.string e)) (hlt : pe.block < w.heap.size) :
    Calls Tryd.prog 50 #[.agg #[.string x.f0, .int .u32 x.f1, .int .u32 x.f2, .string x.f3], .pointer (some pe)] w fun ex w' => ex = .returned (.bool (named_p e x)) ∧ Below w.heap.size w w' :=
  named_is.calls x pe e w hp hlt
set_option maxHeartbeats 4000000 in
set_option maxRecDepth 100000 in
theorem named_idx.calls (A : Option Addr) (c : Nat) (l : List S51) (hsub : ∀ x ∈ l, x ∈ decRows) (pe : Addr) (e : ByteArray) (w : World) (hL : Laid w) (hr : Kd.C k51 w A l.length l) (hc : l.length ≤ c) (hl : l.length ≤ 1000000) (hp : w.cell? pe = some (.string e)) (hpb : pe.block < w.heap.size) :
    Calls Tryd.prog 69 #[.slice A l.length c, .func (.func 50) #[] #[.pointer (some pe)]] w fun ex w' => ex = .returned (.int .i64 (idxOf (named_p e) l)) ∧ Below w.heap.size w w' := by
  have HE := Lib.hid (fun x hx w hL h h' => named_at x (hsub x hx) pe e w hL h h')
  have HN := Lib.hid (fun h => idxOf_none (named_p e) l h)
  have HA := Lib.hid (fun k hk hn h => idxOf_at (named_p e) l k hk hn h)
  generalize idxOf (named_p e) l = R at HN HA ⊢
  generalize named_p e = P at HE HN HA
  have HR := Lib.hid hr
  have HL := Lib.hid hL
  clear hr hL hsub
  go_enter Tryd.func69, Tryd.ntmps69
  go_wp2
  go_loopw [8] (fun t wr => ∃ k : Nat, t = .int .i64 k ∧ k ≤ l.length ∧ (∀ j (hj : j < l.length), j < k → P l[j] = false) ∧ Below w.heap.size w wr) (fun t _ => l.length - (intOf t).toNat)
  case atStart => exact ⟨0, rfl, Nat.zero_le _, fun j _ hj => by omega, Below.refl _ _⟩
  case round =>
    obtain ⟨k, rfl, hk, hn, hB⟩ := hrel
    by_cases hlt : k < l.length
    · obtain ⟨ad, rfl, c0, c1, c2, c3⟩ := at_T51 (Kd.C_below HR.out hB) (k : Int) (by omega) (by omega)
      have hp' : wr.cell? pe = some (.string e) := (hB.cell hpb).trans hp
      have hx : rd_T51 l (k : Int) = l[k] := by
        unfold rd_T51
        simp [hlt]
      rw [hx, Int.toNat_natCast] at c0 c1 c2 c3
      have hB' := Nat.lt_of_lt_of_le hpb hB.size
      have hn' := Lib.hid hn
      have HL' := Lib.hid (Laid.below HL.out hB)
      clear hn hx
      cases hb : P l[k]
      · go_wp2_with (go_at_call 50; (with_reducible refine (HE.out l[k] (List.getElem_mem _) _ HL'.out hp' hB').mono ?_); rintro ex w2 ⟨rfl, hb2⟩)
        refine ⟨⟨k + 1, by go_num, hlt, fun j hj hjk => ?_, hB.trans (hb2.mono hB.size)⟩, by simp [intOf]; omega⟩
        rcases Nat.lt_or_ge j k with h1 | h1
        · exact hn'.out j hj h1
        · obtain rfl : j = k := by omega
          exact hb
      · have hR := HA.out k hlt (fun j hj => hn'.out j (by omega) hj) hb
        subst hR
        go_wp2_with (go_at_call 50; (with_reducible refine (HE.out l[k] (List.getElem_mem _) _ HL'.out hp' hB').mono ?_); rintro ex w2 ⟨rfl, hb2⟩)
        go_ret
        exact ⟨rfl, hB.trans (hb2.mono hB.size)⟩
    have e4 : k = l.length := by omega
    have hR := HN.out (fun x hx => by
      obtain ⟨j, hj, rfl⟩ := List.getElem_of_mem hx
      exact hn j hj (by omega))
    subst hR
    clear hn HA HN
    subst e4
    go_wp2
    go_ret
    exact ⟨rfl, hB⟩
set_option maxHeartbeats 4000000 in
set_option maxRecDepth 100000 in
theorem named_find.calls (pe : Addr) (e : ByteArray) (w : World) (hL : Laid w) (hp : w.cell? pe = some (.string e)) (hpb : pe.block < w.heap.size) (x : S51) (b : Bool) (hx : foundOf (named_p e) z51 decRows = (x, b)) :
    Calls Tryd.prog 49 #[.func (.func 50) #[] #[.pointer (some pe)]] w fun ex w' => ex = .returned (.tuple #[.agg #[.string x.f0, .int .u32 x.f1, .int .u32 x.f2, .string x.f3], .bool b]) ∧ Below w.heap.size w w' := by
  have RW := Lib.hid (fun w => dec_rows.calls decRows w rows_some)
  have HI := Lib.hid (fun A c w hL hr hc hp hpb => named_idx.calls A c decRows (fun _ h => h) pe e w hL hr hc (by rw [rows_length]; decide) hp hpb)
  have hF := idxOf_found (named_p e) z51 decRows
  rw [hx] at hF
  have HF := Lib.hid hF
  have HL := Lib.hid hL
  clear hF hx hL
  generalize idxOf (named_p e) decRows = i at HI HF
  generalize decRows = L at HI HF RW
  have hb0 : Below w.heap.size w (w.alloc (.cells #[.string ⟨#[]⟩, .int .u32 0, .int .u32 0, .string ⟨#[]⟩] 51)) := (Below.refl _ w).alloc (Nat.le_refl _) _
  have R0 := Lib.hid (World.alloc_heap_new w (.cells #[.string ⟨#[]⟩, .int .u32 0, .int .u32 0, .string ⟨#[]⟩] 51))
  have r1 := Lib.hid ((hb0.cell hpb).trans hp)
  have r2 := Lib.hid (Nat.lt_of_lt_of_le hpb hb0.size)
  clear hp
  by_cases h0 : i < 0
  · obtain ⟨hx1, hx2⟩ := HF.out.1 h0
    dsimp only at hx1 hx2
    subst hx1 hx2
    have hd : decide (i ≥ 0) = false := decide_eq_false (by omega)
    have hd' : decide (0 ≤ i) = false := decide_eq_false (by omega)
    go_enter Tryd.func49, Tryd.ntmps49
    go_wp2_with (first
      | (go_at_call 68; (with_reducible refine (RW.out _).mono ?_); rintro ex w1 ⟨v0, rfl, hR, hb1⟩; obtain ⟨A, c, rfl, hcl, hC⟩ := Kd.R_reads hR; have k1 := (hb1.cell (p := pe) (by simp; omega)).trans r1.out; have k2 : pe.block < w1.heap.size := Nat.lt_of_lt_of_le r2.out hb1.size; have hB1 := hb0.trans (hb1.mono hb0.size); have g1 := (hb1.block w.heap.size (by simp)).trans R0.out; have s1 : w.heap.size < w1.heap.size := Nat.lt_of_lt_of_le (by simp) hb1.size; have HC1 := Lib.hid hC; clear hR hC)
      | (go_at_call 69; (with_reducible refine (HI.out A c w1 (Laid.below HL.out hB1) HC1.out hcl k1 k2).mono ?_); rintro ex w2 ⟨rfl, hb2⟩; have g0 := (hb2.block w.heap.size s1).trans g1; have hB := hB1.trans (hb2.mono hB1.size); have q0 : w2.cell? ⟨w.heap.size, 0, none⟩ = some (.string ⟨#[]⟩) := (by unfold World.cell?; rw [g0]; rfl); have u0 : w2.frozen? ⟨w.heap.size, 0, none⟩ = false := (by unfold World.frozen?; rw [g0]; rfl); have q1 : w2.cell? ⟨w.heap.size, 1, none⟩ = some (.int .u32 0) := (by unfold World.cell?; rw [g0]; rfl); have u1 : w2.frozen? ⟨w.heap.size, 1, none⟩ = false := (by unfold World.frozen?; rw [g0]; rfl); have q2 : w2.cell? ⟨w.heap.size, 2, none⟩ = some (.int .u32 0) := (by unfold World.cell?; rw [g0]; rfl); have u2 : w2.frozen? ⟨w.heap.size, 2, none⟩ = false := (by unfold World.frozen?; rw [g0]; rfl); have q3 : w2.cell? ⟨w.heap.size, 3, none⟩ = some (.string ⟨#[]⟩) := (by unfold World.cell?; rw [g0]; rfl); have u3 : w2.frozen? ⟨w.heap.size, 3, none⟩ = false := (by unfold World.frozen?; rw [g0]; rfl); have gx := Lib.hid g0; clear g0 g1))
    refine bodyPost_ret (dres_ct rfl _ _ w.heap.size 51 #[.string ⟨#[]⟩, .int .u32 0, .int .u32 0, .string ⟨#[]⟩] (0, 0) _ rfl ?_ Tryd.underlying51 rfl (by kernel_rfl) _ rfl) rfl ?_
    · refine blk_put (cs := #[.string ⟨#[]⟩, .int .u32 0, .int .u32 0, .string ⟨#[]⟩]) ?_ 3 _ rfl
      refine blk_put (cs := #[.string ⟨#[]⟩, .int .u32 0, .int .u32 0, .string ⟨#[]⟩]) ?_ 2 _ rfl
      refine blk_put (cs := #[.string ⟨#[]⟩, .int .u32 0, .int .u32 0, .string ⟨#[]⟩]) ?_ 1 _ rfl
      refine blk_put (cs := #[.string ⟨#[]⟩, .int .u32 0, .int .u32 0, .string ⟨#[]⟩]) ?_ 0 _ rfl
      exact gx.out
    · exact ⟨rfl, (Below.setCell (p := ⟨w.heap.size, 3, none⟩) (Below.setCell (p := ⟨w.heap.size, 2, none⟩) (Below.setCell (p := ⟨w.heap.size, 1, none⟩) (Below.setCell (p := ⟨w.heap.size, 0, none⟩) hB (Nat.le_refl _) _) (Nat.le_refl _) _) (Nat.le_refl _) _) (Nat.le_refl _) _)⟩
  obtain ⟨hx1, hx2⟩ := HF.out.2 h0
  dsimp only at hx1 hx2
  subst hx1
  have hd : decide (i ≥ 0) = true := decide_eq_true (by omega)
  have hd' : decide (0 ≤ i) = true := decide_eq_true (by omega)
  have hil : i.toNat < L.length := (List.getElem?_eq_some_iff.1 hx2).1
  have hi1 : 0 ≤ i := by omega
  have hi2 : i < L.length := by omega
  have hrd : rd_T51 L i = x := by
    unfold rd_T51
    rw [List.getD_eq_getElem?_getD, hx2]
    rfl
  have AT := Lib.hid (fun (A : Option Addr) (w1 w2 : World) (hC : Kd.C k51 w1 A L.length L) (hB : Below w1.heap.size w1 w2) => at_T51 (Kd.C_below hC hB) i hi1 hi2)
  rw [hrd] at AT
  clear hx2 hrd
  go_enter Tryd.func49, Tryd.ntmps49
  go_wp2_with (first
    | (go_at_call 68; (with_reducible refine (RW.out _).mono ?_); rintro ex w1 ⟨v0, rfl, hR, hb1⟩; obtain ⟨A, c, rfl, hcl, hC⟩ := Kd.R_reads hR; have k1 := (hb1.cell (p := pe) (by simp; omega)).trans r1.out; have k2 : pe.block < w1.heap.size := Nat.lt_of_lt_of_le r2.out hb1.size; have hB1 := hb0.trans (hb1.mono hb0.size); have g1 := (hb1.block w.heap.size (by simp)).trans R0.out; have s1 : w.heap.size < w1.heap.size := Nat.lt_of_lt_of_le (by simp) hb1.size; have HC1 := Lib.hid hC; clear hR hC)
    | (go_at_call 69; (with_reducible refine (HI.out A c w1 (Laid.below HL.out hB1) HC1.out hcl k1 k2).mono ?_); rintro ex w2 ⟨rfl, hb2⟩; have g0 := (hb2.block w.heap.size s1).trans g1; have hB := hB1.trans (hb2.mono hB1.size); have q0 : w2.cell? ⟨w.heap.size, 0, none⟩ = some (.string ⟨#[]⟩) := (by unfold World.cell?; rw [g0]; rfl); have u0 : w2.frozen? ⟨w.heap.size, 0, none⟩ = false := (by unfold World.frozen?; rw [g0]; rfl); have q1 : w2.cell? ⟨w.heap.size, 1, none⟩ = some (.int .u32 0) := (by unfold World.cell?; rw [g0]; rfl); have u1 : w2.frozen? ⟨w.heap.size, 1, none⟩ = false := (by unfold World.frozen?; rw [g0]; rfl); have q2 : w2.cell? ⟨w.heap.size, 2, none⟩ = some (.int .u32 0) := (by unfold World.cell?; rw [g0]; rfl); have u2 : w2.frozen? ⟨w.heap.size, 2, none⟩ = false := (by unfold World.frozen?; rw [g0]; rfl); have q3 : w2.cell? ⟨w.heap.size, 3, none⟩ = some (.string ⟨#[]⟩) := (by unfold World.cell?; rw [g0]; rfl); have u3 : w2.frozen? ⟨w.heap.size, 3, none⟩ = false := (by unfold World.frozen?; rw [g0]; rfl); obtain ⟨ad, rfl, c0, c1, c2, c3⟩ := AT.out A w1 w2 HC1.out hb2; have gx := Lib.hid g0; clear g0 g1))
  refine bodyPost_ret (dres_ct rfl _ _ w.heap.size 51 #[.string x.f0, .int .u32 x.f1, .int .u32 x.f2, .string x.f3] (0, 0) _ rfl ?_ Tryd.underlying51 rfl (by kernel_rfl) _ rfl) rfl ?_
  · refine blk_put (cs := #[.string x.f0, .int .u32 x.f1, .int .u32 x.f2, .string ⟨#[]⟩]) ?_ 3 _ rfl
    refine blk_put (cs := #[.string x.f0, .int .u32 x.f1, .int .u32 0, .string ⟨#[]⟩]) ?_ 2 _ rfl
    refine blk_put (cs := #[.string x.f0, .int .u32 0, .int .u32 0, .string ⟨#[]⟩]) ?_ 1 _ rfl
    refine blk_put (cs := #[.string ⟨#[]⟩, .int .u32 0, .int .u32 0, .string ⟨#[]⟩]) ?_ 0 _ rfl
    exact gx.out
  · exact ⟨rfl, (Below.setCell (p := ⟨w.heap.size, 3, none⟩) (Below.setCell (p := ⟨w.heap.size, 2, none⟩) (Below.setCell (p := ⟨w.heap.size, 1, none⟩) (Below.setCell (p := ⟨w.heap.size, 0, none⟩) hB (Nat.le_refl _) _) (Nat.le_refl _) _) (Nat.le_refl _) _) (Nat.le_refl _) _)⟩
end Go.Proofs.YtnddjndgfaefaaaDoor.F
end
section
namespace Go.Proofs.YtnddjndgfaefaaaDoor.F
open Go.RowKit Go.Shelf Go.Proofs.YtnddjndgfaefaaaDoorW.PrintWords Go.Proofs.YtnddjndgfaefaaaDoorW.PrintLast Go.Proofs.YtnddjndgfaefaaaDoorW.PrintMore
set_option linter.unusedVariables false
set_option linter.unusedSimpArgs false
theorem found_mem {α : Type} (p : α → Bool) (z : α) : ∀ (l : List α), (foundOf p z l).2 = true → (foundOf p z l).1 ∈ l ∧ p (foundOf p z l).1 = true
  | [], h => by cases h
  | x :: l, h => by
    unfold foundOf at h ⊢
    by_cases hp : p x = true
    · rw [if_pos hp]
      exact ⟨List.mem_cons_self, hp⟩
    rw [if_neg hp] at h ⊢
    exact ⟨List.mem_cons_of_mem _ (found_mem p z l h).1, (found_mem p z l h).2⟩
-- HAND fn=ferry/dec.named ; rounds=0 ; making=1 ; laid=1
def dec_named.f (a0 : ByteArray) : Option (ByteArray × Int × Int × ByteArray × Bool) := some ((foundOf (named_p a0) z51 decRows).1.f0, (foundOf (named_p a0) z51 decRows).1.f1, (foundOf (named_p a0) z51 decRows).1.f2, (foundOf (named_p a0) z51 decRows).1.f3, (foundOf (named_p a0) z51 decRows).2)
set_option maxHeartbeats 4000000 in
set_option maxRecDepth 100000 in
theorem dec_named.calls (a0 : ByteArray) (r1 : ByteArray) (r2 : Int) (r3 : Int) (r4 : ByteArray) (r5 : Bool) (w : World) (hL : Laid w) (h : dec_named.f a0 = some (r1, r2, r3, r4, r5)) :
    Calls Tryd.prog 30 #[.string a0] w fun ex w' => ex = .returned (.tuple #[.agg #[.string r1, .int .u32 r2, .int .u32 r3, .string r4], .bool r5]) ∧ Below w.heap.size w w' := by
  unfold dec_named.f at h
  obtain ⟨⟨x, b⟩, hx⟩ : ∃ y, foundOf (named_p a0) z51 decRows = y := ⟨_, rfl⟩
  rw [hx] at h
  simp only [Option.some.injEq, Prod.mk.injEq] at h
  obtain ⟨rfl, rfl, rfl, rfl, rfl⟩ := h
  have FD := Lib.hid (fun pe w hL hp hpb => named_find.calls pe a0 w hL hp hpb x b hx)
  have T2 := Lib.hid (two_blocks w (.cells #[.string a0] 9) (.cells #[.string ⟨#[]⟩, .int .u32 0, .int .u32 0, .string ⟨#[]⟩] 51))
  have HL := Lib.hid (Laid.below hL T2.out.2.2.2)
  have p0 := Lib.hid (dblk_cell (j := 0) (v := .string a0) T2.out.1 rfl)
  clear hx hL
  go_enter Tryd.func30, Tryd.ntmps30
  go_wp2_with (go_at_call 49; (with_reducible refine (FD.out ⟨w.heap.size, 0, none⟩ _ HL.out p0.out (by rw [T2.out.2.2.1]; simp; omega)).mono ?_); rintro ex w1 ⟨rfl, hb1⟩; have B1 := Lib.hid (T2.out.2.2.2.trans (hb1.mono (by rw [T2.out.2.2.1]; omega))); have g1 := (hb1.block _ (by rw [T2.out.2.2.1]; omega)).trans T2.out.2.1; have q0 := dblk_cell (j := 0) (v := .string ⟨#[]⟩) g1 rfl; have u0 := dblk_free (j := 0) g1; have q1 := dblk_cell (j := 1) (v := .int .u32 0) g1 rfl; have u1 := dblk_free (j := 1) g1; have q2 := dblk_cell (j := 2) (v := .int .u32 0) g1 rfl; have u2 := dblk_free (j := 2) g1; have q3 := dblk_cell (j := 3) (v := .string ⟨#[]⟩) g1 rfl; have u3 := dblk_free (j := 3) g1; have G1 := Lib.hid g1; clear g1 hb1)
  refine bodyPost_ret (dres_ct rfl _ _ (w.heap.size + 1) 51 #[.string x.f0, .int .u32 x.f1, .int .u32 x.f2, .string x.f3] (0, 0) _ rfl ?_ Tryd.underlying51 rfl (by kernel_rfl) _ rfl) rfl ?_
  · refine blk_put (cs := #[.string x.f0, .int .u32 x.f1, .int .u32 x.f2, .string ⟨#[]⟩]) ?_ 3 _ rfl
    refine blk_put (cs := #[.string x.f0, .int .u32 x.f1, .int .u32 0, .string ⟨#[]⟩]) ?_ 2 _ rfl
    refine blk_put (cs := #[.string x.f0, .int .u32 0, .int .u32 0, .string ⟨#[]⟩]) ?_ 1 _ rfl
    refine blk_put (cs := #[.string ⟨#[]⟩, .int .u32 0, .int .u32 0, .string ⟨#[]⟩]) ?_ 0 _ rfl
    exact G1.out
  · exact ⟨rfl, (Below.setCell (p := ⟨w.heap.size + 1, 3, none⟩) (Below.setCell (p := ⟨w.heap.size + 1, 2, none⟩) (Below.setCell (p := ⟨w.heap.size + 1, 1, none⟩) (Below.setCell (p := ⟨w.heap.size + 1, 0, none⟩) B1.out (Nat.le_succ _) _) (Nat.le_succ _) _) (Nat.le_succ _) _) (Nat.le_succ _) _)⟩
-- HAND fn=ferry/dec.Decode ; rounds=0 ; making=1 ; laid=1
theorem found_zero {α : Type} (p : α → Bool) (z : α) : ∀ (l : List α), (foundOf p z l).2 = false → (foundOf p z l).1 = z
  | [], _ => rfl
  | x :: l, h => by
    unfold foundOf at h ⊢
    by_cases hp : p x = true
    · rw [if_pos hp] at h
      cases h
    rw [if_neg hp] at h ⊢
    exact found_zero p z l h
end Go.Proofs.YtnddjndgfaefaaaDoor.F
end
