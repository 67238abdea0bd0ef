/- Whatever the input, the law RevokeSteps answers true, and each argument reads behind the call as it read before. No condition. -/
import Derived.Test.YtedjibjmbgllkaaRows
import Derived.Test.YtedjibjmbgllkaaPHandx1
import Derived.Test.YtedjibjmbgllkaaPHandx1
import Derived.Test.YtedjibjmbgllkaaGRead
import Derived.WalkKit
import Derived.ProofKit
import Derived.OpenShut
import Derived.ShutString
import Derived.ChangeOld
import Derived.Below
import Derived.SizedLaws
namespace Go.Proofs.Ytedjibjmbgllkaa.revokeSteps
set_option linter.unusedSimpArgs false
open Go.ChangeShapes Go.WideShapes Go.ChangeAt Go.RowKit Go.Proofs.Ytedjibjmbgllkaa.PHand Go.Proofs.Ytedjibjmbgllkaa.PAll Go.Proofs.Ytedjibjmbgllkaa.Help Go.Proofs.YtedjibjmbgllkaaW.PrintWords Go.Proofs.YtedjibjmbgllkaaW.PrintMore
set_option linter.unusedVariables false
theorem own : ownKnob Try.prog.godebug = none := by kernel_rfl
theorem laidOut : laidOutB Try.prog = true := by kernel_rfl
structure S24 where
  f0 : Int
  f1 : List Int
def k24 : Kd S24 := Kd.iso (Kd.pair (Kd.int .i64) (Kd.slice 3 (Kd.int .i64))) (fun x : S24 => (x.f0, x.f1))
theorem k24_open {w : World} {x : S24} {cs : List Value} (h : k24.K w x cs) : ∃ A1 c1, cs = [.int .i64 x.f0, .slice A1 x.f1.length c1] ∧ x.f1.length ≤ c1 ∧ (Kd.int .i64).C w A1 x.f1.length x.f1 := by
  obtain ⟨_, _, rfl, rfl, ⟨A1, c1, rfl, l1, g1⟩⟩ := h
  exact ⟨A1, c1, rfl, l1, g1⟩
def wf24 (b : S24) : Prop := (fun x => (Lit.int .i64 x).wf = true) b.f0 ∧ (fun xs => ∀ x ∈ xs, (fun x => (Lit.int .i64 x).wf = true) x) b.f1
theorem rd24 : Reader Try.prog 24 k24 wf24 :=
  Reader.struct Try.underlying24 [(3, 0), (22, 1)] (by kernel_rfl) rfl (FReader.cons (Reader.int Try.underlying3 rfl) (FReader.last (Reader.slice Try.underlying22 rfl (Reader.int Try.underlying3 rfl)))) (fun x : S24 => (x.f0, x.f1)) (fun x => ⟨x.1, x.2⟩) (fun _ => rfl)
def wf44 (b : S44) : Prop := (fun xs => ∀ x ∈ xs, (fun x => (Lit.int .i64 x).wf = true) x) b.f0 ∧ (fun xs => ∀ x ∈ xs, (fun x => (Lit.int .i64 x).wf = true) x) b.f1
theorem rd44 : Reader Try.prog 44 k44 wf44 :=
  Reader.struct Try.underlying44 [(22, 0), (22, 1)] (by kernel_rfl) rfl (FReader.cons (Reader.slice Try.underlying22 rfl (Reader.int Try.underlying3 rfl)) (FReader.last (Reader.slice Try.underlying22 rfl (Reader.int Try.underlying3 rfl)))) (fun x : S44 => (x.f0, x.f1)) (fun x => ⟨x.1, x.2⟩) (fun _ => rfl)
set_option maxRecDepth 100000 in
theorem lifted (os : Os) (started : os.Started) (H : Type) (enc : TypeId × Value → H) :
    ReturnsInHanded {} Try.checked os 8 .any (Rows.revokeStepsSpec.pre6 enc Try.prog Try.f8 Rows.revokeStepsRow.domain false) (Rows.revokeStepsSpec.post enc Try.prog Try.f8 false true false false) := by
  refine returnsInHanded_of_change_sized (C := Try.checked) own started (by kernel_rfl) Try.func8
    (ChangeSpec.witness6 (enc := enc) (C := Try.checked) false ⟨#[], #[.agg #[.int .i64 0, .slice none 0 0], .slice none 0 0], []⟩ 8 (by kernel_rfl) (by kernel_rfl) (by kernel_rfl) (by kernel_rfl)) ?_
  intro W base args ds gs before hval0 hW hcnd _ _
  have hval : ∀ (j : Nat) t v, Try.f8.params[j]? = some t → args[j]? = some v → Value.okWide Try.prog W .any base t v := hval0
  have hW' := hW
  obtain ⟨p, q, hA0, hV, rfl, hfz, hnd⟩ := hW
  have hA : DataW.TrodAll enc Try.prog W 0 (fun _ => true) true Try.f8.params.toList args.toList ds p := hA0
  rw [Try.params8] at hA hval
  obtain ⟨v0, vs0, d0, ds0, p0, q0, hargs, rfl, rfl, h0, r0⟩ := trodAll_cons hA
  obtain ⟨v1, vs1, d1, ds1, p1, q1, rfl, rfl, rfl, h1, r1⟩ := trodAll_cons r0
  obtain ⟨rfl, rfl, rfl⟩ := trodAll_nil r1
  obtain rfl : args = #[v0, v1] := by cases args; simp_all
  obtain ⟨rfl, rfl⟩ := trodVars_none hV
  obtain ⟨cs0, rfl, _⟩ := okWide_struct Try.underlying24 (hval 0 24 v0 rfl rfl)
  have kp0 := h0
  have lt0 : ∀ x ∈ p0, x.block < W.heap.size := by obtain ⟨m, hm⟩ := kp0; exact DataW.trod_lt m _ _ _ hm
  obtain ⟨x0, kx0, wf0⟩ := Reader.agg rd24 h0
  obtain ⟨A0_1, c0_1, ecs0, hc0_1, hr0_1⟩ := k24_open kx0
  obtain rfl := (Array.toList_inj.1 (show cs0.toList = (List.toArray _).toList from ecs0.trans (by rw [List.toList_toArray])))
  obtain ⟨A1, n1, c1, rfl⟩ := okWide_slice Try.underlying42 (hval 1 42 v1 rfl rfl)
  have kp1 := h1
  have lt1 : ∀ x ∈ p1, x.block < W.heap.size := by obtain ⟨m, hm⟩ := kp1; exact DataW.trod_lt m _ _ _ hm
  obtain ⟨l1, rfl, hc1, hr1, wf1⟩ := Reader.row (Reader.slice Try.underlying42 rfl rd44) h1
  clear hA0 hval0
  have hk := Pure.RevokeSteps x0.f0 x0.f1 l1
  refine (skiarealaw27_RevokeSteps.calls x0.f0 A0_1 c0_1 x0.f1 A1 c1 l1 true W hr0_1 hc0_1 hr1 hc1 hk).mono fun e W' he => ?_
  obtain ⟨rfl, hd⟩ := he
  have bel : Below W.heap.size W W' := by first | exact hd | exact hd.below
  exact ⟨_, rfl, _, _, _, [], _, [], hW', trodAll_mk1 (shut_bool Try.underlying4 _), (trodAll_cons_mk (Below.trod laidOut (by kernel_rfl) (of_decide_eq_true (by kernel_rfl)) kp0 bel lt0) (trodAll_cons_mk (Below.trod laidOut (by kernel_rfl) (of_decide_eq_true (by kernel_rfl)) kp1 bel lt1) trodAll_mk0)), rfl, bel.frame _, fun h => by cases h⟩
theorem over : Rows.revokeStepsRow.holds Try.pinned (OpenSpec.ofChange Rows.revokeStepsSpec) :=
  OpenClaim.holds_of_wide 8 Try.f8 rfl rfl rfl rfl rfl rfl rfl ⟨rfl, rfl, rfl, rfl, rfl⟩ rfl rfl rfl rfl rfl (by kernel_rfl) Try.func8 (by kernel_rfl)
    (of_decide_eq_true (by kernel_rfl)) (by unfold Func.isWrapper; first | (rw [if_pos (by decide +kernel)]; kernel_rfl) | (rw [if_neg (by decide +kernel)]; exact ⟨rfl, rfl⟩))
    (fun os started H enc _ => lifted os started H enc)
theorem proved : Rows.RevokeStepsSaid := over
#print axioms proved
end Go.Proofs.Ytedjibjmbgllkaa.revokeSteps
namespace Go.Proofs.Ytedjibjmbgllkaa
/-- The row, under a short name, for the claim. -/
theorem revokeSteps_holds : Rows.RevokeStepsSaid := revokeSteps.proved
end Go.Proofs.Ytedjibjmbgllkaa
