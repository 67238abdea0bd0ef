/- The reference's Right of one product whose first condition fails. -/
import Derived.Test.YtbfflokkdahjjaaGOne22
namespace Go.Proofs.Ytbfflokkdahjjaa.PV
open Go.RowKit Go.Proofs.Ytbfflokkdahjjaa.PAll Go.Proofs.Ytbfflokkdahjjaa.Pure Go.Proofs.YtbfflokkdahjjaaW.PrintWords Go.Proofs.YtbfflokkdahjjaaW.PrintLast Go.Proofs.YtbfflokkdahjjaaW.PrintMore
set_option linter.unusedVariables false
set_option linter.unusedSimpArgs false
set_option maxHeartbeats 8000000 in
set_option maxRecDepth 100000 in
theorem one_bad (p : S40) (A : Option Addr) (c : Nat) (B : Option Addr) (d : Nat) (l : List (S40)) (L : Option Addr) (cl : Nat) (w : World) (hf : ¬ first22 p) :
    Calls Try.prog 16 #[.agg #[.int .i64 p.f0, .int .i64 p.f1, .int .i64 p.f2, .int .i64 p.f3, .int .i64 p.f4, .slice A p.f5.length c, .slice B p.f6.length d, .int .i64 p.f7.f0, .int .i64 p.f7.f1, .int .i64 p.f8], .slice L l.length cl] w fun e w' => (∃ r : Int, e = .returned (.int .i64 r) ∧ (r = 0 → good p)) ∧ Below w.heap.size w w' := by
  have hu := Try.underlying40
  have HF := Aside0.mk hf
  clear hf
  go_enter Try.func16, Try.ntmps16
  go_wp2
  all_goals first
    | (go_ret; exact ⟨⟨2, rfl, fun h => by simp at h⟩, below_alloc (Below.refl _ _) _⟩)
    | (refine absurd ?_ HF.out; clear HF hu; unfold first22; simp_all; done)
    | (refine absurd ?_ HF.out; clear HF hu; unfold first22; simp_all; omega)
end Go.Proofs.Ytbfflokkdahjjaa.PV
