/- The reference's Right of one product: whatever it returns, 0 only for products whose season, kind and lists are in bounds. -/
import Derived.Test.YtbfflokkdahjjaaGRef22
namespace Go.Proofs.Ytbfflokkdahjjaa.PV
open Go.RowKit Go.Proofs.Ytbfflokkdahjjaa.PAll Go.Proofs.Ytbfflokkdahjjaa.Pure Go.Proofs.YtbfflokkdahjjaaW.PrintWords Go.Proofs.YtbfflokkdahjjaaW.PrintLast Go.Proofs.YtbfflokkdahjjaaW.PrintMore
set_option linter.unusedVariables false
set_option linter.unusedSimpArgs false
structure PR0 (w : World) (p : S40) (A : Option Addr) (c : Nat) (B : Option Addr) (d : Nat) : Prop where
  C5 : Kd.C (Kd.int .i64) w A p.f5.length p.f5
  c5 : p.f5.length ≤ c
  C6 : Kd.C k73 w B p.f6.length p.f6
  c6 : p.f6.length ≤ d
theorem PR0.below {w w1 : World} {p : S40} {A : Option Addr} {c : Nat} {B : Option Addr} {d : Nat} (h : PR0 w p A c B d) (hb : Below w.heap.size w w1) : PR0 w1 p A c B d := ⟨Kd.C_below h.C5 hb, h.c5, Kd.C_below h.C6 hb, h.c6⟩
/-- The first condition of the reference. -/
def first22 (p : S40) : Prop := ¬ p.f0 < 1 ∧ ¬ 9999 < p.f0 ∧ (p.f1 = 0 ∨ p.f1 = 1 ∨ p.f1 = 2) ∧ ¬ p.f2 < 1 ∧ ¬ (if p.f1 = 0 then 604800 else 100) < p.f2 ∧ ¬ p.f3 < 0 ∧ ¬ 120 < p.f3 ∧ ¬ p.f4 < 0 ∧ ¬ 120 < p.f4 ∧ ¬ p.f8 < 0 ∧ ¬ 100000000 < p.f8
end Go.Proofs.Ytbfflokkdahjjaa.PV
