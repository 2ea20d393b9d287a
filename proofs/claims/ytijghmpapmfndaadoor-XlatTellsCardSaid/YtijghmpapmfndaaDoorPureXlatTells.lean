/- The pure statement of the law XlatTells, proved. No condition. -/
import Derived.Test.YtijghmpapmfndaaDoorQXlatTells
import Derived.Test.YtijghmpapmfndaaDoorPXlat
namespace Go.Proofs.YtijghmpapmfndaaDoor.F
open Go.RowKit Go.Proofs.YtijghmpapmfndaaDoorW.PrintWords Go.Proofs.YtijghmpapmfndaaDoorW.PrintLast Go.Proofs.YtijghmpapmfndaaDoorW.PrintMore
set_option linter.unusedVariables false
set_option linter.unusedSimpArgs false
theorem found_none {α : Type} (p : α → Bool) (z : α) : ∀ (l : List α), l.all (fun x => !p x) = true → foundOf p z l = (z, false)
  | [], _ => rfl
  | x :: l, h => by
    simp only [List.all_cons, Bool.and_eq_true, Bool.not_eq_true'] at h
    unfold foundOf
    rw [h.1]
    exact found_none p z l h.2
def errKeys : List Int := [35, 36, 37, 38, 39, 40, 75]
def callKeys : List Int := callList.map (fun x => x.f0.f0)
theorem err_eq (e : Int) : xlat_Err.f e = ferryref24_Err.f e := by
  by_cases h : e ∈ errKeys
  · have : ∀ e ∈ errKeys, xlat_Err.f e = ferryref24_Err.f e := by decide +kernel
    exact this e h
  · simp only [errKeys, List.mem_cons, List.not_mem_nil, or_false, not_or] at h
    obtain ⟨h1, h2, h3, h4, h5, h6, h7⟩ := h
    have hn : foundOf (err_p e) z36 errList = (z36, false) := found_none _ _ _ (by
      simp only [errList, List.all_cons, List.all_nil, err_p, Bool.and_true, Bool.and_eq_true, Bool.not_eq_true', beq_eq_false_iff_ne]
      exact ⟨Ne.symm h1, Ne.symm h2, Ne.symm h3, Ne.symm h4, Ne.symm h5, Ne.symm h6, Ne.symm h7⟩)
    unfold xlat_Err.f ferryref24_Err.f
    rw [hn, if_neg h1, if_neg h2, if_neg h3, if_neg h4, if_neg h5, if_neg h6, if_neg h7]
    by_cases ha : e < 1
    · rw [if_neg (by decide), if_pos ha, if_neg (by omega)]
    · by_cases hb : e > 34
      · rw [if_neg (by decide), if_neg ha, if_pos hb, if_pos (by omega), if_neg (by omega)]
      · rw [if_neg (by decide), if_neg ha, if_neg hb, if_pos (by omega), if_pos (by omega), Int.emod_eq_of_lt (by omega) (by omega)]
theorem call_none (n : Int) (h : n ∉ callKeys) (h0 : 0 ≤ n) (h1 : n ≤ 4294967295) : foundOf (of_p n) z39 callList = (z39, false) := by
  apply found_none
  rw [List.all_eq_true]
  intro x hx
  have hk : (callList.all fun x => x.f0.f0 % 4294967296 == x.f0.f0) = true := by decide +kernel
  have hk' := List.all_eq_true.1 hk x hx
  have hne : x.f0.f0 ≠ n := fun e => h (e ▸ List.mem_map_of_mem (f := fun x => x.f0.f0) hx)
  simp only [beq_iff_eq] at hk'
  unfold of_p
  rw [hk']
  simpa using hne
set_option maxRecDepth 100000 in
theorem ask_eq (n : Int) (h0 : 0 ≤ n) (h1 : n ≤ 4294967295) : xlat_Ask.f n = ferryref24_Ask.f n := by
  by_cases h : n ∈ callKeys
  · have : ∀ e ∈ callKeys, xlat_Ask.f e = ferryref24_Ask.f e := by decide +kernel
    exact this n h
  · unfold xlat_Ask.f
    rw [call_none n h h0 h1]
    have hk : ∀ m ∈ callKeys, n ≠ m := fun m hm e => h (e ▸ hm)
    have hl : callKeys = [4001, 4003, 4004, 4005, 4006, 4010, 4012, 4013, 4019, 4020, 4024, 4033, 4037, 4038, 4039, 4040, 4041, 4042, 4045, 4049, 4063, 4090, 4091, 4093, 4119, 4122, 4125, 4140, 4145, 4146, 4166, 4193, 4194, 4195, 4196, 4203, 4206, 4210, 4213, 4214, 4215, 4219, 4246, 4263, 4283, 4353] := by decide +kernel
    rw [hl] at hk
    simp only [List.forall_mem_cons, List.not_mem_nil] at hk
    unfold ferryref24_Ask.f
    simp only [hk, if_false]
    rfl
set_option maxRecDepth 100000 in
theorem name_eq (n : Int) (h0 : 0 ≤ n) (h1 : n ≤ 4294967295) : xlat_Name.f n = ferryref24_Name.f n := by
  by_cases h : n ∈ callKeys
  · have h2 : ∀ e ∈ callKeys, (xlat_Name.f e).map (·.data.toList) = (ferryref24_Name.f e).map (·.data.toList) := by decide +kernel
    have h3 := h2 n h
    cases ha : xlat_Name.f n with
    | none => unfold xlat_Name.f at ha; cases ha
    | some a =>
      cases hb : ferryref24_Name.f n with
      | none =>
        rw [ha, hb] at h3
        cases h3
      | some b =>
        rw [ha, hb] at h3
        simp only [Option.map_some, Option.some.injEq] at h3
        rw [WideShapes.bytes_inj h3]
  · unfold xlat_Name.f
    rw [call_none n h h0 h1]
    have hk : ∀ m ∈ callKeys, n ≠ m := fun m hm e => h (e ▸ hm)
    have hl : callKeys = [4001, 4003, 4004, 4005, 4006, 4010, 4012, 4013, 4019, 4020, 4024, 4033, 4037, 4038, 4039, 4040, 4041, 4042, 4045, 4049, 4063, 4090, 4091, 4093, 4119, 4122, 4125, 4140, 4145, 4146, 4166, 4193, 4194, 4195, 4196, 4203, 4206, 4210, 4213, 4214, 4215, 4219, 4246, 4263, 4283, 4353] := by decide +kernel
    rw [hl] at hk
    simp only [List.forall_mem_cons, List.not_mem_nil] at hk
    unfold ferryref24_Name.f ferryref24_more.f
    simp only [hk, if_false]
    rfl
theorem tells_awake : ferrylaw24_awake.f 40 = some true := by decide +kernel
theorem XlatTells_pure : ferrylaw24_XlatTells.Pure := by
  intro e g n he hg hn
  refine ⟨40, ?_⟩
  obtain ⟨x, rfl⟩ : ∃ x : BitVec 32, g = (x.toNat : Int) := ⟨BitVec.ofNat 32 g.toNat, by rw [BitVec.toNat_ofNat, Nat.mod_eq_of_lt (by omega)]; omega⟩
  have e1 : ∃ v, xlat_Err.f e = some v := ⟨_, rfl⟩
  have e2 : ∃ v, xlat_Ask.f n = some v := ⟨_, rfl⟩
  have e3 : ∃ v, xlat_Name.f n = some v := ⟨_, rfl⟩
  obtain ⟨v1, e1⟩ := e1
  obtain ⟨v2, e2⟩ := e2
  obtain ⟨v3, e3⟩ := e3
  have e1' := (err_eq e).symm.trans e1
  have e2' := (ask_eq n hn.1 hn.2).symm.trans e2
  have e3' := (name_eq n hn.1 hn.2).symm.trans e3
  unfold ferrylaw24_XlatTells.f
  rw [xlat_flags x 33, ref_flags x 35, e1, e1', e2, e2']
  simp only [Option.bind_some, beq_self_eq_true, if_true, e3, e3', tells_awake]
end Go.Proofs.YtijghmpapmfndaaDoor.F
