/- Whatever the input, the law AvalancheLists answers true, and each argument reads behind the call as it read before. No condition. -/
import Derived.Test.YtfjnpdgjigkbcaaRows
import Derived.Test.YtfjnpdgjigkbcaaPAllx30
import Derived.Test.YtfjnpdgjigkbcaaUListsL
import Derived.Test.YtfjnpdgjigkbcaaGBase
import Derived.WalkKit
import Derived.ProofKit
import Derived.OpenShut
import Derived.ShutString
import Derived.ChangeOld
import Derived.Below
import Derived.SizedLaws
namespace Go.Proofs.Ytfjnpdgjigkbcaa.avalancheLists
set_option linter.unusedSimpArgs false
open Go.ChangeShapes Go.WideShapes Go.ChangeAt Go.RowKit Go.Proofs.Ytfjnpdgjigkbcaa.PAll Go.Proofs.Ytfjnpdgjigkbcaa.Help Go.Proofs.YtfjnpdgjigkbcaaW.PrintWords Go.Proofs.YtfjnpdgjigkbcaaW.PrintMore
set_option linter.unusedVariables false
theorem own : ownKnob Try.prog.godebug = none := by kernel_rfl
theorem laidOut : laidOutB Try.prog = true := by kernel_rfl
def wf34 (b : S34) : Prop := (fun x => (Lit.int .i64 x).wf = true) b.f0 ∧ (fun xs => ∀ x ∈ xs, (fun x => (Lit.int .i64 x).wf = true) x) b.f1 ∧ (fun xs => ∀ x ∈ xs, (fun x => (Lit.int .i64 x).wf = true) x) b.f2 ∧ (fun x => (Lit.int .i64 x).wf = true) b.f3 ∧ (fun x => (Lit.int .i64 x).wf = true) b.f4 ∧ (fun x => (Lit.int .i64 x).wf = true) b.f5
theorem rd34 : Reader Try.prog 34 k34 wf34 :=
  Reader.struct Try.underlying34 [(3, 0), (31, 1), (31, 2), (3, 3), (3, 4), (3, 5)] (by kernel_rfl) rfl (FReader.cons (Reader.int Try.underlying3 rfl) (FReader.cons (Reader.slice Try.underlying31 rfl (Reader.int Try.underlying3 rfl)) (FReader.cons (Reader.slice Try.underlying31 rfl (Reader.int Try.underlying3 rfl)) (FReader.cons (Reader.int Try.underlying3 rfl) (FReader.cons (Reader.int Try.underlying3 rfl) (FReader.last (Reader.int Try.underlying3 rfl))))))) (fun x : S34 => (x.f0, x.f1, x.f2, x.f3, x.f4, x.f5)) (fun x => ⟨x.1, x.2.1, x.2.2.1, x.2.2.2.1, x.2.2.2.2.1, x.2.2.2.2.2⟩) (fun _ => rfl)
set_option maxRecDepth 100000 in
theorem lifted (os : Os) (started : os.Started) (H : Type) (enc : TypeId × Value → H) :
    ReturnsInHanded {} Try.checked os 6 .any (Rows.avalancheListsSpec.pre6 enc Try.prog Try.f6 Rows.avalancheListsRow.domain false) (Rows.avalancheListsSpec.post enc Try.prog Try.f6 false true false false) := by
  refine returnsInHanded_of_change_sized (C := Try.checked) own started (by kernel_rfl) Try.func6
    (ChangeSpec.witness6 (enc := enc) (C := Try.checked) false ⟨#[], #[.slice none 0 0, .slice none 0 0], []⟩ 8 (by kernel_rfl) (by kernel_rfl) (by kernel_rfl) (by kernel_rfl)) ?_
  intro W base args ds gs before hval0 hW hcnd _ _
  have hval : ∀ (j : Nat) t v, Try.f6.params[j]? = some t → args[j]? = some v → Value.okWide Try.prog W .any base t v := hval0
  have hW' := hW
  obtain ⟨p, q, hA0, hV, rfl, hfz, hnd⟩ := hW
  have hA : DataW.TrodAll enc Try.prog W 0 (fun _ => true) true Try.f6.params.toList args.toList ds p := hA0
  rw [Try.params6] at hA hval
  obtain ⟨v0, vs0, d0, ds0, p0, q0, hargs, rfl, rfl, h0, r0⟩ := trodAll_cons hA
  obtain ⟨v1, vs1, d1, ds1, p1, q1, rfl, rfl, rfl, h1, r1⟩ := trodAll_cons r0
  obtain ⟨rfl, rfl, rfl⟩ := trodAll_nil r1
  obtain rfl : args = #[v0, v1] := by cases args; simp_all
  obtain ⟨rfl, rfl⟩ := trodVars_none hV
  obtain ⟨A0, n0, c0, rfl⟩ := okWide_slice Try.underlying22 (hval 0 22 v0 rfl rfl)
  have kp0 := h0
  have lt0 : ∀ x ∈ p0, x.block < W.heap.size := by obtain ⟨m, hm⟩ := kp0; exact DataW.trod_lt m _ _ _ hm
  obtain ⟨l0, rfl, hc0, hr0, wf0⟩ := Reader.row (Reader.slice Try.underlying22 rfl rd34) h0
  obtain ⟨A1, n1, c1, rfl⟩ := okWide_slice Try.underlying31 (hval 1 31 v1 rfl rfl)
  have kp1 := h1
  have lt1 : ∀ x ∈ p1, x.block < W.heap.size := by obtain ⟨m, hm⟩ := kp1; exact DataW.trod_lt m _ _ _ hm
  obtain ⟨l1, rfl, hc1, hr1, wf1⟩ := Reader.row (Reader.slice Try.underlying31 rfl (Reader.int Try.underlying3 rfl)) h1
  clear hA0 hval0
  obtain ⟨k, hk⟩ := Pure.AvalancheLists l0 l1
  refine (skiarealaw50_AvalancheLists.calls k A0 c0 l0 A1 c1 l1 true W hr0 hc0 hr1 hc1 hk).mono fun e W' he => ?_
  obtain ⟨rfl, hd⟩ := he
  have bel : Below W.heap.size W W' := by first | exact hd | exact hd.below
  exact ⟨_, rfl, _, _, _, [], _, [], hW', trodAll_mk1 (shut_bool Try.underlying4 _), (trodAll_cons_mk (Below.trod laidOut (by kernel_rfl) (of_decide_eq_true (by kernel_rfl)) kp0 bel lt0) (trodAll_cons_mk (Below.trod laidOut (by kernel_rfl) (of_decide_eq_true (by kernel_rfl)) kp1 bel lt1) trodAll_mk0)), rfl, bel.frame _, fun h => by cases h⟩
theorem over : Rows.avalancheListsRow.holds Try.pinned (OpenSpec.ofChange Rows.avalancheListsSpec) :=
  OpenClaim.holds_of_wide 6 Try.f6 rfl rfl rfl rfl rfl rfl rfl ⟨rfl, rfl, rfl, rfl, rfl⟩ rfl rfl rfl rfl rfl (by kernel_rfl) Try.func6 (by kernel_rfl)
    (of_decide_eq_true (by kernel_rfl)) (by unfold Func.isWrapper; first | (rw [if_pos (by decide +kernel)]; kernel_rfl) | (rw [if_neg (by decide +kernel)]; exact ⟨rfl, rfl⟩))
    (fun os started H enc _ => lifted os started H enc)
theorem proved : Rows.AvalancheListsSaid := over
#print axioms proved
end Go.Proofs.Ytfjnpdgjigkbcaa.avalancheLists
namespace Go.Proofs.Ytfjnpdgjigkbcaa
/-- The row, under a short name, for the claim. -/
theorem avalancheLists_holds : Rows.AvalancheListsSaid := avalancheLists.proved
end Go.Proofs.Ytfjnpdgjigkbcaa
