/- Functions of this seat's program, each as a plain Lean function, and what a call of each comes to. No condition. -/
import Derived.Test.YtijghmpapmfndaaDoorF0
namespace Go.Proofs.YtijghmpapmfndaaDoor.F
open Go.RowKit Go.Proofs.YtijghmpapmfndaaDoorW.PrintWords Go.Proofs.YtijghmpapmfndaaDoorW.PrintLast Go.Proofs.YtijghmpapmfndaaDoorW.PrintMore
attribute [local go_sem] max2_int min2_int max_two min_two max_three min_three max_four min_four   -- for this text's walks alone
set_option linter.unusedVariables false
set_option linter.unusedSimpArgs false

/-! ### xlat_errors: function 22 -/
def xlat_errors.f  : Option ((List (S36))) := some (([(⟨35, 45⟩ : S36), (⟨36, 78⟩ : S36), (⟨37, 46⟩ : S36), (⟨38, 89⟩ : S36), (⟨39, 93⟩ : S36), (⟨40, 90⟩ : S36), (⟨75, 79⟩ : S36)] : List (S36)))
set_option maxHeartbeats 8000000 in
set_option maxRecDepth 100000 in
theorem xlat_errors.calls  (r : List (S36)) (w : World) (h : xlat_errors.f  = some r) :
    Calls Tryd.prog 22 #[] w fun e w' => ∃ v0_ : Value, e = .returned (v0_) ∧ Kd.R k36 36 w' w.heap.size (fun _ => True) v0_ r ∧ Below w.heap.size w w' := by
  have hu36 := Tryd.underlying36
  have HB := Aside0.mk (Below.refl w.heap.size w)
  have H : (some (([(⟨35, 45⟩ : S36), (⟨36, 78⟩ : S36), (⟨37, 46⟩ : S36), (⟨38, 89⟩ : S36), (⟨39, 93⟩ : S36), (⟨40, 90⟩ : S36), (⟨75, 79⟩ : S36)] : List (S36)))) = some r := h
  clear h
  obtain ⟨y145, hy145⟩ : ∃ y_ : List (S36), y_ = (([(⟨35, 45⟩ : S36), (⟨36, 78⟩ : S36), (⟨37, 46⟩ : S36), (⟨38, 89⟩ : S36), (⟨39, 93⟩ : S36), (⟨40, 90⟩ : S36), (⟨75, 79⟩ : S36)] : List (S36))) := ⟨_, rfl⟩
  replace H : (some y145) = some r := by first | (rw [hy145]; with_reducible exact H) | (have H2_ := (Option.bind_some _ _).symm.trans H; rw [hy145]; with_reducible exact H2_) | (have H2_ := (Option.bind_some _ _).symm.trans H; with_reducible exact H2_) | with_reducible exact H | (rw [hy145]; exact H) | exact H
  have Ny145 := Aside0.mk hy145
  clear hy145
  obtain rfl := Option.some.inj H
  go_enter Tryd.func22, Tryd.ntmps22
  go_wp2_with (first | ((with_reducible refine gate_dst (N := 8) rfl ?_); refine Kd.R_lit k36 _ 36 ?hg (N := 8) ?hd (xs := ([(⟨35, 45⟩ : S36), (⟨36, 78⟩ : S36), (⟨37, 46⟩ : S36), (⟨38, 89⟩ : S36), (⟨39, 93⟩ : S36), (⟨40, 90⟩ : S36), (⟨75, 79⟩ : S36)] : List (S36))) (inner := [.int .i64 35, .int .i64 45, .int .i64 36, .int .i64 78, .int .i64 37, .int .i64 46, .int .i64 38, .int .i64 89, .int .i64 39, .int .i64 93, .int .i64 40, .int .i64 90, .int .i64 75, .int .i64 79]) (ok := fun _ => True) (okp := fun _ => True) ?hr ?hp (fun _ hk => hk) trivial (Below.refl _ _) (Nat.le_refl _) (by simp) ?_; (case hd => rfl); (case hg => rfl); (case hr => first | (go_simp; done) | (go_simp; rfl)); (case hp => exact (Reps.c2 (show Kd.M k36 _ _ _ (⟨35, 45⟩ : S36) [.int .i64 35, .int .i64 45] from (k36_mkM _ _ _ (⟨35, 45⟩ : S36) )) (Reps.c2 (show Kd.M k36 _ _ _ (⟨36, 78⟩ : S36) [.int .i64 36, .int .i64 78] from (k36_mkM _ _ _ (⟨36, 78⟩ : S36) )) (Reps.c2 (show Kd.M k36 _ _ _ (⟨37, 46⟩ : S36) [.int .i64 37, .int .i64 46] from (k36_mkM _ _ _ (⟨37, 46⟩ : S36) )) (Reps.c2 (show Kd.M k36 _ _ _ (⟨38, 89⟩ : S36) [.int .i64 38, .int .i64 89] from (k36_mkM _ _ _ (⟨38, 89⟩ : S36) )) (Reps.c2 (show Kd.M k36 _ _ _ (⟨39, 93⟩ : S36) [.int .i64 39, .int .i64 93] from (k36_mkM _ _ _ (⟨39, 93⟩ : S36) )) (Reps.c2 (show Kd.M k36 _ _ _ (⟨40, 90⟩ : S36) [.int .i64 40, .int .i64 90] from (k36_mkM _ _ _ (⟨40, 90⟩ : S36) )) (Reps.c2 (show Kd.M k36 _ _ _ (⟨75, 79⟩ : S36) [.int .i64 75, .int .i64 79] from (k36_mkM _ _ _ (⟨75, 79⟩ : S36) )) (Reps.none _ _))))))))); intro v146 w1 ho2 hb hg_ hnew_; clear hg_ hnew_; (first | rw [← Ny145.out] at ho2 | (simp only [Int.reduceToNat] at ho2; rw [← Ny145.out] at ho2)); have n0_ := Aside0.mk (Kd.R_lower ho2 (below_size (by repeat (first | (with_reducible first | exact HB.out | apply below_alloc | apply pw_below_drewN | apply below_drew1) | exact HB.out)))); have n1_ := Aside0.mk (below_step (by repeat (first | (with_reducible first | exact HB.out | apply below_alloc | apply pw_below_drewN | apply below_drew1) | exact HB.out)) hb); clear HB; have HO147 := n0_; have HB := n1_; clear n0_ n1_; clear hb ho2))
  go_ret
  exact ⟨_, by first | rfl | (simp [errW_none, errW_some] <;> rfl) | (simp [*, errW_none, errW_some] <;> rfl), by (with_reducible repeat (first | apply Kd.R_alloc | apply Kd.R_drewN | apply Kd.R_drew)); exact HO147.out, by repeat (first | (with_reducible first | exact HB.out | apply below_alloc | apply pw_below_drewN | apply below_drew1) | exact HB.out)⟩

end Go.Proofs.YtijghmpapmfndaaDoor.F
