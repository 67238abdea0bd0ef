/- Whatever the input, the law WinchClears answers true, and each argument reads behind the call as it read before. No condition. -/
import Derived.Test.YtipnnihjkipnoaaRows
import Derived.Test.YtipnnihjkipnoaaPAllx20
import Derived.Test.YtipnnihjkipnoaaUClears
import Derived.Test.YtipnnihjkipnoaaGRead
import Derived.WalkKit
import Derived.ProofKit
import Derived.OpenShut
import Derived.ShutString
import Derived.ChangeOld
import Derived.Below
import Derived.SizedLaws
namespace Go.Proofs.Ytipnnihjkipnoaa.winchClears
set_option linter.unusedSimpArgs false
open Go.ChangeShapes Go.WideShapes Go.ChangeAt Go.RowKit Go.Proofs.Ytipnnihjkipnoaa.PAll Go.Proofs.Ytipnnihjkipnoaa.Help Go.Proofs.YtipnnihjkipnoaaW.PrintWords Go.Proofs.YtipnnihjkipnoaaW.PrintMore
set_option linter.unusedVariables false
theorem own : ownKnob Try.prog.godebug = none := by kernel_rfl
theorem laidOut : laidOutB Try.prog = true := by kernel_rfl
def wf29 (b : S29) : Prop := (fun x => (Lit.int .i64 x).wf = true) b.f0 ∧ (fun x => (Lit.int .i64 x).wf = true) b.f1 ∧ (fun x => (Lit.int .i64 x).wf = true) b.f2 ∧ (fun xs => ∀ x ∈ xs, (fun x => (Lit.int .i64 x).wf = true) x) b.f3
theorem rd29 : Reader Try.prog 29 k29 wf29 :=
  Reader.struct Try.underlying29 [(3, 0), (3, 1), (3, 2), (27, 3)] (by kernel_rfl) rfl (FReader.cons (Reader.int Try.underlying3 rfl) (FReader.cons (Reader.int Try.underlying3 rfl) (FReader.cons (Reader.int Try.underlying3 rfl) (FReader.last (Reader.slice Try.underlying27 rfl (Reader.int Try.underlying3 rfl)))))) (fun x : S29 => (x.f0, x.f1, x.f2, x.f3)) (fun x => ⟨x.1, x.2.1, x.2.2.1, x.2.2.2⟩) (fun _ => rfl)
set_option maxRecDepth 100000 in
theorem lifted (os : Os) (started : os.Started) (H : Type) (enc : TypeId × Value → H) :
    ReturnsInHanded {} Try.checked os 9 .any (Rows.winchClearsSpec.pre6 enc Try.prog Try.f9 Rows.winchClearsRow.domain false) (Rows.winchClearsSpec.post enc Try.prog Try.f9 false true false false) := by
  refine returnsInHanded_of_change_sized (C := Try.checked) own started (by kernel_rfl) Try.func9
    (ChangeSpec.witness6 (enc := enc) (C := Try.checked) false ⟨#[], #[.slice none 0 0, .int .i64 0, .int .i64 0], []⟩ 8 (by kernel_rfl) (by kernel_rfl) (by kernel_rfl) (by kernel_rfl)) ?_
  intro W base args ds gs before hval0 hW hcnd _ _
  have hval : ∀ (j : Nat) t v, Try.f9.params[j]? = some t → args[j]? = some v → Value.okWide Try.prog W .any base t v := hval0
  have hW' := hW
  obtain ⟨p, q, hA0, hV, rfl, hfz, hnd⟩ := hW
  have hA : DataW.TrodAll enc Try.prog W 0 (fun _ => true) true Try.f9.params.toList args.toList ds p := hA0
  rw [Try.params9] at hA hval
  obtain ⟨v0, vs0, d0, ds0, p0, q0, hargs, rfl, rfl, h0, r0⟩ := trodAll_cons hA
  obtain ⟨v1, vs1, d1, ds1, p1, q1, rfl, rfl, rfl, h1, r1⟩ := trodAll_cons r0
  obtain ⟨v2, vs2, d2, ds2, p2, q2, rfl, rfl, rfl, h2, r2⟩ := trodAll_cons r1
  obtain ⟨rfl, rfl, rfl⟩ := trodAll_nil r2
  obtain rfl : args = #[v0, v1, v2] := by cases args; simp_all
  obtain ⟨rfl, rfl⟩ := trodVars_none hV
  obtain ⟨A0, n0, c0, rfl⟩ := okWide_slice Try.underlying22 (hval 0 22 v0 rfl rfl)
  have kp0 := h0
  have lt0 : ∀ x ∈ p0, x.block < W.heap.size := by obtain ⟨m, hm⟩ := kp0; exact DataW.trod_lt m _ _ _ hm
  obtain ⟨l0, rfl, hc0, hr0, wf0⟩ := Reader.row (Reader.slice Try.underlying22 rfl rd29) h0
  obtain ⟨a1, rfl, rfl, rfl, w1⟩ := open_int Try.underlying3 (hval 1 3 v1 rfl rfl) h1
  obtain ⟨a2, rfl, rfl, rfl, w2⟩ := open_int Try.underlying3 (hval 2 3 v2 rfl rfl) h2
  clear hA0 hval0
  obtain ⟨k, hk⟩ := Pure.WinchClears l0 a1 a2
  refine (skiarealaw46_WinchClears.calls k A0 c0 l0 a1 a2 true W hr0 hc0 hk).mono fun e W' he => ?_
  obtain ⟨rfl, hd⟩ := he
  have bel : Below W.heap.size W W' := by first | exact hd | exact hd.below
  exact ⟨_, rfl, _, _, _, [], _, [], hW', trodAll_mk1 (shut_bool Try.underlying4 _), (trodAll_cons_mk (Below.trod laidOut (by kernel_rfl) (of_decide_eq_true (by kernel_rfl)) kp0 bel lt0) (trodAll_cons_mk (shut_int Try.underlying3 w1) (trodAll_cons_mk (shut_int Try.underlying3 w2) trodAll_mk0))), rfl, bel.frame _, fun h => by cases h⟩
theorem over : Rows.winchClearsRow.holds Try.pinned (OpenSpec.ofChange Rows.winchClearsSpec) :=
  OpenClaim.holds_of_wide 9 Try.f9 rfl rfl rfl rfl rfl rfl rfl ⟨rfl, rfl, rfl, rfl, rfl⟩ rfl rfl rfl rfl rfl (by kernel_rfl) Try.func9 (by kernel_rfl)
    (of_decide_eq_true (by kernel_rfl)) (by unfold Func.isWrapper; first | (rw [if_pos (by decide +kernel)]; kernel_rfl) | (rw [if_neg (by decide +kernel)]; exact ⟨rfl, rfl⟩))
    (fun os started H enc _ => lifted os started H enc)
theorem proved : Rows.WinchClearsSaid := over
#print axioms proved
end Go.Proofs.Ytipnnihjkipnoaa.winchClears
namespace Go.Proofs.Ytipnnihjkipnoaa
/-- The row, under a short name, for the claim. -/
theorem winchClears_holds : Rows.WinchClearsSaid := winchClears.proved
end Go.Proofs.Ytipnnihjkipnoaa
