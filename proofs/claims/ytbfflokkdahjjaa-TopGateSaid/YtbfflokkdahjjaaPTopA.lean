/- TopGate answers true. No condition. -/
import Derived.Test.YtbfflokkdahjjaaGAliveT
import Derived.Test.YtbfflokkdahjjaaGOneAll
namespace Go.Proofs.Ytbfflokkdahjjaa.PHand
open Go.RowKit Go.Proofs.Ytbfflokkdahjjaa.PAll Go.Proofs.Ytbfflokkdahjjaa.PV Go.Proofs.Ytbfflokkdahjjaa.Pure Go.Proofs.YtbfflokkdahjjaaW.PrintWords Go.Proofs.YtbfflokkdahjjaaW.PrintLast Go.Proofs.YtbfflokkdahjjaaW.PrintMore
set_option linter.unusedVariables false
set_option linter.unusedSimpArgs false
/-- What is known behind the guards. -/
structure Fine (g : G8) (l : List (S40)) : Prop where
  ok : gateOk g
  inc : Inc g.f6
  n : g.f6.length ≤ 200
  good : ∀ p ∈ l, good p
  nl : l.length ≤ 64
theorem fine_of {g : G8} {l : List (S40)} (h1 : gright g = 0) (h2 : l.length ≤ 64 ∧ ∀ p ∈ l, good p) : Fine g l := by
  obtain ⟨a, b⟩ := gright_ok h1
  obtain ⟨_, hn, _, hi⟩ := (right_zero _ _).1 b
  exact ⟨a, hi, hn, h2.2, h2.1⟩
theorem Fine.gr {g : G8} {l : List (S40)} (h : Fine g l) {w : World} {A : Option Addr} {c : Nat} (hC : Kd.C (Kd.int .i64) w A g.f6.length g.f6) (hc : g.f6.length ≤ c) : GR w g A c := ⟨hC, hc, h.inc, by have := h.n; omega⟩
theorem Fine.lr {g : G8} {l : List (S40)} (h : Fine g l) {w : World} {A : Option Addr} {c : Nat} (hC : Kd.C k40 w A l.length l) (hc : l.length ≤ c) : LR w l A c := ⟨hC, hc, good_few h.good, by have := h.nl; omega⟩
theorem open_time {g : G8} {l : List (S40)} {m : M9} {t : Int} (h : Fine g l) (ho : decideF g l m t = 0) : -1 ≤ t ∧ t ≤ 900000000 := by
  obtain ⟨_, _, _, h4, h5⟩ := decide_open.1 ho
  obtain ⟨hm, _⟩ := find_id l m.f2 h4
  have hg := (h.good _ hm).1
  obtain ⟨hs, _⟩ := why_zero.1 h5
  omega
theorem decide_x {g : G8} {A : Option Addr} {c : Nat} {l : List (S40)} {B : Option Addr} {d : Nat} {m : M9} {t x : Int} {w : World} (hx : decideF g l m t = x) (h : GR w g A c) (hl : LR w l B d) :
    Calls Try.prog 8 #[.agg #[.int .i64 g.f0, .int .i64 g.f1, .int .i64 g.f2, .int .i64 g.f3, .int .u64 g.f4, .int .i64 g.f5, .slice A g.f6.length c, .int .i64 g.f7], .slice B l.length d, .agg #[.int .i64 m.f0, .int .i64 m.f1, .int .i64 m.f2, .int .i64 m.f3, .int .i64 m.f4, .int .i64 m.f5, .int .i64 m.f6, .int .i64 m.f7, .int .u64 m.f8], .int .i64 t] w fun e w' => e = .returned (.int .i64 x) ∧ Below w.heap.size w w' := by
  subst hx
  exact decide_c g A c l B d m t w h hl
theorem check_x {key : Int} {m : M9} {b : Bool} (h : chk key m = b) (w : World) :
    Calls Try.prog 10 #[.int .u64 key, .agg #[.int .i64 m.f0, .int .i64 m.f1, .int .i64 m.f2, .int .i64 m.f3, .int .i64 m.f4, .int .i64 m.f5, .int .i64 m.f6, .int .i64 m.f7, .int .u64 m.f8]] w fun e w' => e = .returned (.bool b) ∧ Below w.heap.size w w' := by
  subst h
  exact check_c key m w
theorem pass_x {g : G8} {A : Option Addr} {c : Nat} {l : List (S40)} {B : Option Addr} {d : Nat} {m : M9} {t : Int} {w : World} {G7 : G8} {N7 : M9} {R8 : R7} {e7 : Int} (hx : passF g l m t = (G7, N7, R8, e7)) (h : GR w g A c) (hl : LR w l B d) (ht : decideF g l m t = 0 → -1 ≤ t ∧ t ≤ 900000000) :
    Calls Try.prog 13 #[.agg #[.int .i64 g.f0, .int .i64 g.f1, .int .i64 g.f2, .int .i64 g.f3, .int .u64 g.f4, .int .i64 g.f5, .slice A g.f6.length c, .int .i64 g.f7], .slice B l.length d, .agg #[.int .i64 m.f0, .int .i64 m.f1, .int .i64 m.f2, .int .i64 m.f3, .int .i64 m.f4, .int .i64 m.f5, .int .i64 m.f6, .int .i64 m.f7, .int .u64 m.f8], .int .i64 t] w fun e w' => ∃ A7 c7, e = .returned (.tuple #[.agg #[.int .i64 G7.f0, .int .i64 G7.f1, .int .i64 G7.f2, .int .i64 G7.f3, .int .u64 G7.f4, .int .i64 G7.f5, .slice A7 G7.f6.length c7, .int .i64 G7.f7], .agg #[.int .i64 N7.f0, .int .i64 N7.f1, .int .i64 N7.f2, .int .i64 N7.f3, .int .i64 N7.f4, .int .i64 N7.f5, .int .i64 N7.f6, .int .i64 N7.f7, .int .u64 N7.f8], .agg #[.int .i64 R8.f0, .int .i64 R8.f1, .int .i64 R8.f2, .int .i64 R8.f3, .int .i64 R8.f4, .int .i64 R8.f5, .int .i64 R8.f6], .int .i64 e7]) ∧ Kd.R (Kd.int .i64) 3 w' w.heap.size (fun _ => True) (.slice A7 G7.f6.length c7) G7.f6 ∧ Below w.heap.size w w' := by
  have := pass_c g A c l B d m t w h hl ht
  rw [hx] at this
  refine this.mono ?_
  rintro e w' ⟨v, he, hv, hb⟩
  obtain ⟨A7, c7, rfl⟩ := Kd.R_slice hv
  exact ⟨A7, c7, he, hv, hb⟩
/-- The gate and the medium of a ride, and what is known of them. -/
theorem ride {g : G8} {l : List (S40)} {m : M9} {t : Int} (hf : Fine g l) (ho : decideF g l m t = 0) (hu : (useF (findP l m.f2).1 m g.f2 g.f1 t).2 = 0) (hp : passF g l m t = passOk g m (useF (findP l m.f2).1 m g.f2 g.f1 t).1 t) :
    ∃ N7 : M9, passF g l m t = (⟨g.f0, g.f1, g.f2, wrap64 (g.f3 + 1), g.f4, g.f5, g.f6, g.f7⟩, N7, ⟨g.f0, g.f3, m.f0, N7.f1, m.f2, g.f1, t⟩, 0) ∧ N7.f0 = m.f0 ∧ N7.f1 = wrap64 (m.f1 + 1) ∧ chk g.f4 N7 = true ∧ ¬ decideF ⟨g.f0, g.f1, g.f2, wrap64 (g.f3 + 1), g.f4, g.f5, g.f6, g.f7⟩ l N7 t = 0 := by
  obtain ⟨_, h2, _, h4, h5⟩ := decide_open.1 ho
  obtain ⟨hm, _⟩ := find_id l m.f2 h4
  have hg := hf.good _ hm
  refine ⟨(passOk g m (useF (findP l m.f2).1 m g.f2 g.f1 t).1 t).2.1, hp, ?_, ?_, chk_signM (use_right (chk_range h2) hu hg), not_again hu hg⟩
  · show (useF (findP l m.f2).1 m g.f2 g.f1 t).1.f0 = m.f0
    rw [(use_one hu).2.2.2]
  · show (useF (findP l m.f2).1 m g.f2 g.f1 t).1.f1 = wrap64 (m.f1 + 1)
    rw [(use_one hu).2.2.2]
end Go.Proofs.Ytbfflokkdahjjaa.PHand
