/- Whatever the input, the law AvalancheGrows answers true, and each argument reads behind the call as it read before. No condition. -/
import Derived.Test.YtfjnpdgjigkbcaaRows
import Derived.Test.YtfjnpdgjigkbcaaPAllx32
import Derived.Test.YtfjnpdgjigkbcaaUGrowsL
import Derived.Test.YtfjnpdgjigkbcaaGBase
import Derived.WalkKit
import Derived.ProofKit
import Derived.OpenShut
import Derived.ShutString
import Derived.ChangeOld
import Derived.Below
import Derived.SizedLaws
namespace Go.Proofs.Ytfjnpdgjigkbcaa.avalancheGrows
set_option linter.unusedSimpArgs false
open Go.ChangeShapes Go.WideShapes Go.ChangeAt Go.RowKit Go.Proofs.Ytfjnpdgjigkbcaa.PAll Go.Proofs.Ytfjnpdgjigkbcaa.Help Go.Proofs.YtfjnpdgjigkbcaaW.PrintWords Go.Proofs.YtfjnpdgjigkbcaaW.PrintMore
set_option linter.unusedVariables false
theorem own : ownKnob Try.prog.godebug = none := by kernel_rfl
theorem laidOut : laidOutB Try.prog = true := by kernel_rfl
def wf34 (b : S34) : Prop := (fun x => (Lit.int .i64 x).wf = true) b.f0 ∧ (fun xs => ∀ x ∈ xs, (fun x => (Lit.int .i64 x).wf = true) x) b.f1 ∧ (fun xs => ∀ x ∈ xs, (fun x => (Lit.int .i64 x).wf = true) x) b.f2 ∧ (fun x => (Lit.int .i64 x).wf = true) b.f3 ∧ (fun x => (Lit.int .i64 x).wf = true) b.f4 ∧ (fun x => (Lit.int .i64 x).wf = true) b.f5
theorem rd34 : Reader Try.prog 34 k34 wf34 :=
  Reader.struct Try.underlying34 [(3, 0), (31, 1), (31, 2), (3, 3), (3, 4), (3, 5)] (by kernel_rfl) rfl (FReader.cons (Reader.int Try.underlying3 rfl) (FReader.cons (Reader.slice Try.underlying31 rfl (Reader.int Try.underlying3 rfl)) (FReader.cons (Reader.slice Try.underlying31 rfl (Reader.int Try.underlying3 rfl)) (FReader.cons (Reader.int Try.underlying3 rfl) (FReader.cons (Reader.int Try.underlying3 rfl) (FReader.last (Reader.int Try.underlying3 rfl))))))) (fun x : S34 => (x.f0, x.f1, x.f2, x.f3, x.f4, x.f5)) (fun x => ⟨x.1, x.2.1, x.2.2.1, x.2.2.2.1, x.2.2.2.2.1, x.2.2.2.2.2⟩) (fun _ => rfl)
set_option maxRecDepth 100000 in
theorem lifted (os : Os) (started : os.Started) (H : Type) (enc : TypeId × Value → H) :
    ReturnsInHanded {} Try.checked os 7 .any (Rows.avalancheGrowsSpec.pre6 enc Try.prog Try.f7 Rows.avalancheGrowsRow.domain false) (Rows.avalancheGrowsSpec.post enc Try.prog Try.f7 false true false false) := by
  refine returnsInHanded_of_change_sized (C := Try.checked) own started (by kernel_rfl) Try.func7
    (ChangeSpec.witness6 (enc := enc) (C := Try.checked) false ⟨#[], #[.slice none 0 0, .int .i64 0, .int .i64 0, .slice none 0 0, .slice none 0 0], []⟩ 8 (by kernel_rfl) (by kernel_rfl) (by kernel_rfl) (by kernel_rfl)) ?_
  intro W base args ds gs before hval0 hW hcnd _ _
  have hval : ∀ (j : Nat) t v, Try.f7.params[j]? = some t → args[j]? = some v → Value.okWide Try.prog W .any base t v := hval0
  have hW' := hW
  obtain ⟨p, q, hA0, hV, rfl, hfz, hnd⟩ := hW
  have hA : DataW.TrodAll enc Try.prog W 0 (fun _ => true) true Try.f7.params.toList args.toList ds p := hA0
  rw [Try.params7] at hA hval
  obtain ⟨v0, vs0, d0, ds0, p0, q0, hargs, rfl, rfl, h0, r0⟩ := trodAll_cons hA
  obtain ⟨v1, vs1, d1, ds1, p1, q1, rfl, rfl, rfl, h1, r1⟩ := trodAll_cons r0
  obtain ⟨v2, vs2, d2, ds2, p2, q2, rfl, rfl, rfl, h2, r2⟩ := trodAll_cons r1
  obtain ⟨v3, vs3, d3, ds3, p3, q3, rfl, rfl, rfl, h3, r3⟩ := trodAll_cons r2
  obtain ⟨v4, vs4, d4, ds4, p4, q4, rfl, rfl, rfl, h4, r4⟩ := trodAll_cons r3
  obtain ⟨rfl, rfl, rfl⟩ := trodAll_nil r4
  obtain rfl : args = #[v0, v1, v2, v3, v4] := by cases args; simp_all
  obtain ⟨rfl, rfl⟩ := trodVars_none hV
  obtain ⟨A0, n0, c0, rfl⟩ := okWide_slice Try.underlying22 (hval 0 22 v0 rfl rfl)
  have kp0 := h0
  have lt0 : ∀ x ∈ p0, x.block < W.heap.size := by obtain ⟨m, hm⟩ := kp0; exact DataW.trod_lt m _ _ _ hm
  obtain ⟨l0, rfl, hc0, hr0, wf0⟩ := Reader.row (Reader.slice Try.underlying22 rfl rd34) h0
  obtain ⟨a1, rfl, rfl, rfl, w1⟩ := open_int Try.underlying3 (hval 1 3 v1 rfl rfl) h1
  obtain ⟨a2, rfl, rfl, rfl, w2⟩ := open_int Try.underlying3 (hval 2 3 v2 rfl rfl) h2
  obtain ⟨A3, n3, c3, rfl⟩ := okWide_slice Try.underlying31 (hval 3 31 v3 rfl rfl)
  have kp3 := h3
  have lt3 : ∀ x ∈ p3, x.block < W.heap.size := by obtain ⟨m, hm⟩ := kp3; exact DataW.trod_lt m _ _ _ hm
  obtain ⟨l3, rfl, hc3, hr3, wf3⟩ := Reader.row (Reader.slice Try.underlying31 rfl (Reader.int Try.underlying3 rfl)) h3
  obtain ⟨A4, n4, c4, rfl⟩ := okWide_slice Try.underlying39 (hval 4 39 v4 rfl rfl)
  have kp4 := h4
  have lt4 : ∀ x ∈ p4, x.block < W.heap.size := by obtain ⟨m, hm⟩ := kp4; exact DataW.trod_lt m _ _ _ hm
  obtain ⟨l4, rfl, hc4, hr4, wf4⟩ := Reader.row (Reader.slice Try.underlying39 rfl (Reader.int Try.underlying5 rfl)) h4
  clear hA0 hval0
  obtain ⟨k, hk⟩ := Pure.AvalancheGrows l0 a1 a2 l3 l4 wf3 wf4
  refine (skiarealaw50_AvalancheGrows.calls k A0 c0 l0 a1 a2 A3 c3 l3 A4 c4 l4 true W hr0 hc0 hr3 hc3 hr4 hc4 hk).mono fun e W' he => ?_
  obtain ⟨rfl, hd⟩ := he
  have bel : Below W.heap.size W W' := by first | exact hd | exact hd.below
  exact ⟨_, rfl, _, _, _, [], _, [], hW', trodAll_mk1 (shut_bool Try.underlying4 _), (trodAll_cons_mk (Below.trod laidOut (by kernel_rfl) (of_decide_eq_true (by kernel_rfl)) kp0 bel lt0) (trodAll_cons_mk (shut_int Try.underlying3 w1) (trodAll_cons_mk (shut_int Try.underlying3 w2) (trodAll_cons_mk (Below.trod laidOut (by kernel_rfl) (of_decide_eq_true (by kernel_rfl)) kp3 bel lt3) (trodAll_cons_mk (Below.trod laidOut (by kernel_rfl) (of_decide_eq_true (by kernel_rfl)) kp4 bel lt4) trodAll_mk0))))), rfl, bel.frame _, fun h => by cases h⟩
theorem over : Rows.avalancheGrowsRow.holds Try.pinned (OpenSpec.ofChange Rows.avalancheGrowsSpec) :=
  OpenClaim.holds_of_wide 7 Try.f7 rfl rfl rfl rfl rfl rfl rfl ⟨rfl, rfl, rfl, rfl, rfl⟩ rfl rfl rfl rfl rfl (by kernel_rfl) Try.func7 (by kernel_rfl)
    (of_decide_eq_true (by kernel_rfl)) (by unfold Func.isWrapper; first | (rw [if_pos (by decide +kernel)]; kernel_rfl) | (rw [if_neg (by decide +kernel)]; exact ⟨rfl, rfl⟩))
    (fun os started H enc _ => lifted os started H enc)
theorem proved : Rows.AvalancheGrowsSaid := over
#print axioms proved
end Go.Proofs.Ytfjnpdgjigkbcaa.avalancheGrows
namespace Go.Proofs.Ytfjnpdgjigkbcaa
/-- The row, under a short name, for the claim. -/
theorem avalancheGrows_holds : Rows.AvalancheGrowsSaid := avalancheGrows.proved
end Go.Proofs.Ytfjnpdgjigkbcaa
