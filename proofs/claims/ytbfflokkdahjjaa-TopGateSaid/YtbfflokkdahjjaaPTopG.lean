/- TopGate answers true. No condition. -/
import Derived.Test.YtbfflokkdahjjaaPTopW0
import Derived.Test.YtbfflokkdahjjaaPTopW1
import Derived.Test.YtbfflokkdahjjaaPTopW2
import Derived.Test.YtbfflokkdahjjaaPTopW3
namespace Go.Proofs.Ytbfflokkdahjjaa.PHand
open Go.RowKit Go.Proofs.Ytbfflokkdahjjaa.PAll Go.Proofs.Ytbfflokkdahjjaa.PV Go.Proofs.Ytbfflokkdahjjaa.Pure Go.Proofs.YtbfflokkdahjjaaW.PrintWords Go.Proofs.YtbfflokkdahjjaaW.PrintLast Go.Proofs.YtbfflokkdahjjaaW.PrintMore
set_option linter.unusedVariables false
set_option linter.unusedSimpArgs false
set_option maxHeartbeats 40000000 in
set_option maxRecDepth 100000 in
theorem top_walk (g : G8) (A : Option Addr) (c : Nat) (l : List (S40)) (B : Option Addr) (d : Nat) (m : M9) (t : Int) (w : World) (hC : Kd.C (Kd.int .i64) w A g.f6.length g.f6) (hc : g.f6.length ≤ c) (hD : Kd.C k40 w B l.length l) (hd : l.length ≤ d) :
    Calls Try.prog 3 #[.agg #[.int .i64 g.f0, .int .i64 g.f1, .int .i64 g.f2, .int .i64 g.f3, .int .u64 g.f4, .int .i64 g.f5, .slice A g.f6.length c, .int .i64 g.f7], .slice B l.length d, .agg #[.int .i64 m.f0, .int .i64 m.f1, .int .i64 m.f2, .int .i64 m.f3, .int .i64 m.f4, .int .i64 m.f5, .int .i64 m.f6, .int .i64 m.f7, .int .u64 m.f8], .int .i64 t] w fun e w' => e = .returned (.bool true) ∧ Below w.heap.size w w' := by
  have hu := Try.underlying27
  have hu2 := Try.underlying30
  have hu3 := Try.underlying40
  have hu4 := Try.underlying25
  have hu5 := Try.underlying47
  have HC := Aside0.mk hC
  have HD := Aside0.mk hD
  have HN := Aside0.mk (And.intro hc hd)
  obtain ⟨rg, hrg⟩ : ∃ x, x = gright g := ⟨_, rfl⟩
  have HRG := Aside0.mk hrg
  obtain ⟨wz, hwz⟩ : ∃ W, W = (w.alloc (.cells #[.int .i64 g.f0, .int .i64 g.f1, .int .i64 g.f2, .int .i64 g.f3, .int .u64 g.f4, .int .i64 g.f5, .slice A g.f6.length c, .int .i64 g.f7] 27)).alloc (.cells #[.int .i64 m.f0, .int .i64 m.f1, .int .i64 m.f2, .int .i64 m.f3, .int .i64 m.f4, .int .i64 m.f5, .int .i64 m.f6, .int .i64 m.f7, .int .u64 m.f8] 30) := ⟨_, rfl⟩
  have BG := Aside0.mk (show wz.heap[w.heap.size]? = some (.cells #[.int .i64 g.f0, .int .i64 g.f1, .int .i64 g.f2, .int .i64 g.f3, .int .u64 g.f4, .int .i64 g.f5, .slice A g.f6.length c, .int .i64 g.f7] 27 (0, 0)) from by rw [hwz]; exact blk_alloc (blk_new w _) _)
  have BM := Aside0.mk (show wz.heap[w.heap.size + 1]? = some (.cells #[.int .i64 m.f0, .int .i64 m.f1, .int .i64 m.f2, .int .i64 m.f3, .int .i64 m.f4, .int .i64 m.f5, .int .i64 m.f6, .int .i64 m.f7, .int .u64 m.f8] 30 (0, 0)) from by rw [hwz]; exact blk_new1 w _ _)
  have HB := Aside0.mk (show Below w.heap.size w wz from by rw [hwz]; exact below_alloc (below_alloc (Below.refl w.heap.size w) _) _)
  have HWZ := Aside0.mk hwz
  clear hC hc hD hd hrg hwz
  by_cases hl20 : l.length ≤ 20
  case neg =>
    have e1 : decide ((20 : Int) < (l.length : Int)) = true := decide_eq_true (by omega)
    clear hl20
    go_enter Try.func3, Try.ntmps3
    go_wp2_with (first
      | (go_at_call 5; rw [← HWZ.out]; refine (alive_c _).mono ?_; rintro e w1 ⟨rfl, hb⟩; have BG := Aside0.mk (blk_below BG.out hb); have BM := Aside0.mk (blk_below BM.out hb); have HB := Aside0.mk (HB.out.trans (hb.mono HB.out.size)); clear hb; have zBG0 := (blk_cell BG.out 0).trans rfl; have yBG0 := blk_frozen BG.out 0; have zBG1 := (blk_cell BG.out 1).trans rfl; have yBG1 := blk_frozen BG.out 1; have zBG2 := (blk_cell BG.out 2).trans rfl; have yBG2 := blk_frozen BG.out 2; have zBG3 := (blk_cell BG.out 3).trans rfl; have yBG3 := blk_frozen BG.out 3; have zBG4 := (blk_cell BG.out 4).trans rfl; have yBG4 := blk_frozen BG.out 4; have zBG5 := (blk_cell BG.out 5).trans rfl; have yBG5 := blk_frozen BG.out 5; have zBG6 := (blk_cell BG.out 6).trans rfl; have yBG6 := blk_frozen BG.out 6; have zBG7 := (blk_cell BG.out 7).trans rfl; have yBG7 := blk_frozen BG.out 7; have zBM0 := (blk_cell BM.out 0).trans rfl; have yBM0 := blk_frozen BM.out 0; have zBM1 := (blk_cell BM.out 1).trans rfl; have yBM1 := blk_frozen BM.out 1; have zBM2 := (blk_cell BM.out 2).trans rfl; have yBM2 := blk_frozen BM.out 2; have zBM3 := (blk_cell BM.out 3).trans rfl; have yBM3 := blk_frozen BM.out 3; have zBM4 := (blk_cell BM.out 4).trans rfl; have yBM4 := blk_frozen BM.out 4; have zBM5 := (blk_cell BM.out 5).trans rfl; have yBM5 := blk_frozen BM.out 5; have zBM6 := (blk_cell BM.out 6).trans rfl; have yBM6 := blk_frozen BM.out 6; have zBM7 := (blk_cell BM.out 7).trans rfl; have yBM7 := blk_frozen BM.out 7; have zBM8 := (blk_cell BM.out 8).trans rfl; have yBM8 := blk_frozen BM.out 8))
    all_goals (go_ret; exact ⟨rfl, HB.out⟩)
  case pos =>
  by_cases hg20 : g.f6.length ≤ 20
  case neg =>
    have e1 : decide ((20 : Int) < (l.length : Int)) = false := decide_eq_false (by omega)
    have e2 : decide ((20 : Int) < (g.f6.length : Int)) = true := decide_eq_true (by omega)
    clear hl20 hg20
    go_enter Try.func3, Try.ntmps3
    go_wp2_with (first
      | (go_at_call 5; rw [← HWZ.out]; refine (alive_c _).mono ?_; rintro e w1 ⟨rfl, hb⟩; have BG := Aside0.mk (blk_below BG.out hb); have BM := Aside0.mk (blk_below BM.out hb); have HB := Aside0.mk (HB.out.trans (hb.mono HB.out.size)); clear hb; have zBG0 := (blk_cell BG.out 0).trans rfl; have yBG0 := blk_frozen BG.out 0; have zBG1 := (blk_cell BG.out 1).trans rfl; have yBG1 := blk_frozen BG.out 1; have zBG2 := (blk_cell BG.out 2).trans rfl; have yBG2 := blk_frozen BG.out 2; have zBG3 := (blk_cell BG.out 3).trans rfl; have yBG3 := blk_frozen BG.out 3; have zBG4 := (blk_cell BG.out 4).trans rfl; have yBG4 := blk_frozen BG.out 4; have zBG5 := (blk_cell BG.out 5).trans rfl; have yBG5 := blk_frozen BG.out 5; have zBG6 := (blk_cell BG.out 6).trans rfl; have yBG6 := blk_frozen BG.out 6; have zBG7 := (blk_cell BG.out 7).trans rfl; have yBG7 := blk_frozen BG.out 7; have zBM0 := (blk_cell BM.out 0).trans rfl; have yBM0 := blk_frozen BM.out 0; have zBM1 := (blk_cell BM.out 1).trans rfl; have yBM1 := blk_frozen BM.out 1; have zBM2 := (blk_cell BM.out 2).trans rfl; have yBM2 := blk_frozen BM.out 2; have zBM3 := (blk_cell BM.out 3).trans rfl; have yBM3 := blk_frozen BM.out 3; have zBM4 := (blk_cell BM.out 4).trans rfl; have yBM4 := blk_frozen BM.out 4; have zBM5 := (blk_cell BM.out 5).trans rfl; have yBM5 := blk_frozen BM.out 5; have zBM6 := (blk_cell BM.out 6).trans rfl; have yBM6 := blk_frozen BM.out 6; have zBM7 := (blk_cell BM.out 7).trans rfl; have yBM7 := blk_frozen BM.out 7; have zBM8 := (blk_cell BM.out 8).trans rfl; have yBM8 := blk_frozen BM.out 8))
    all_goals (go_ret; exact ⟨rfl, HB.out⟩)
  case pos =>
  have e1 : decide ((20 : Int) < (l.length : Int)) = false := decide_eq_false (by omega)
  have e2 : decide ((20 : Int) < (g.f6.length : Int)) = false := decide_eq_false (by omega)
  have HG20 := Aside0.mk hg20
  have HL20 := Aside0.mk hl20
  clear hl20 hg20
  by_cases hr0 : rg = 0
  case neg =>
    have e3 : (rg != 0) = true := by simpa using hr0
    clear hr0
    go_enter Try.func3, Try.ntmps3
    go_wp2_with (first
      | (go_at_call 5; rw [← HWZ.out]; refine (alive_c _).mono ?_; rintro e w1 ⟨rfl, hb⟩; have BG := Aside0.mk (blk_below BG.out hb); have BM := Aside0.mk (blk_below BM.out hb); have HB := Aside0.mk (HB.out.trans (hb.mono HB.out.size)); clear hb; have zBG0 := (blk_cell BG.out 0).trans rfl; have yBG0 := blk_frozen BG.out 0; have zBG1 := (blk_cell BG.out 1).trans rfl; have yBG1 := blk_frozen BG.out 1; have zBG2 := (blk_cell BG.out 2).trans rfl; have yBG2 := blk_frozen BG.out 2; have zBG3 := (blk_cell BG.out 3).trans rfl; have yBG3 := blk_frozen BG.out 3; have zBG4 := (blk_cell BG.out 4).trans rfl; have yBG4 := blk_frozen BG.out 4; have zBG5 := (blk_cell BG.out 5).trans rfl; have yBG5 := blk_frozen BG.out 5; have zBG6 := (blk_cell BG.out 6).trans rfl; have yBG6 := blk_frozen BG.out 6; have zBG7 := (blk_cell BG.out 7).trans rfl; have yBG7 := blk_frozen BG.out 7; have zBM0 := (blk_cell BM.out 0).trans rfl; have yBM0 := blk_frozen BM.out 0; have zBM1 := (blk_cell BM.out 1).trans rfl; have yBM1 := blk_frozen BM.out 1; have zBM2 := (blk_cell BM.out 2).trans rfl; have yBM2 := blk_frozen BM.out 2; have zBM3 := (blk_cell BM.out 3).trans rfl; have yBM3 := blk_frozen BM.out 3; have zBM4 := (blk_cell BM.out 4).trans rfl; have yBM4 := blk_frozen BM.out 4; have zBM5 := (blk_cell BM.out 5).trans rfl; have yBM5 := blk_frozen BM.out 5; have zBM6 := (blk_cell BM.out 6).trans rfl; have yBM6 := blk_frozen BM.out 6; have zBM7 := (blk_cell BM.out 7).trans rfl; have yBM7 := blk_frozen BM.out 7; have zBM8 := (blk_cell BM.out 8).trans rfl; have yBM8 := blk_frozen BM.out 8)
      | (go_at_call 6; refine (right28_c g A c _ (Kd.C_below HC.out HB.out) HN.out.1 (by have := HG20.out; omega)).mono ?_; rintro e w2 ⟨rfl, hb⟩; rw [← HRG.out]; have BG := Aside0.mk (blk_below BG.out hb); have BM := Aside0.mk (blk_below BM.out hb); have HB := Aside0.mk (HB.out.trans (hb.mono HB.out.size)); clear hb; have zBG0 := (blk_cell BG.out 0).trans rfl; have yBG0 := blk_frozen BG.out 0; have zBG1 := (blk_cell BG.out 1).trans rfl; have yBG1 := blk_frozen BG.out 1; have zBG2 := (blk_cell BG.out 2).trans rfl; have yBG2 := blk_frozen BG.out 2; have zBG3 := (blk_cell BG.out 3).trans rfl; have yBG3 := blk_frozen BG.out 3; have zBG4 := (blk_cell BG.out 4).trans rfl; have yBG4 := blk_frozen BG.out 4; have zBG5 := (blk_cell BG.out 5).trans rfl; have yBG5 := blk_frozen BG.out 5; have zBG6 := (blk_cell BG.out 6).trans rfl; have yBG6 := blk_frozen BG.out 6; have zBG7 := (blk_cell BG.out 7).trans rfl; have yBG7 := blk_frozen BG.out 7; have zBM0 := (blk_cell BM.out 0).trans rfl; have yBM0 := blk_frozen BM.out 0; have zBM1 := (blk_cell BM.out 1).trans rfl; have yBM1 := blk_frozen BM.out 1; have zBM2 := (blk_cell BM.out 2).trans rfl; have yBM2 := blk_frozen BM.out 2; have zBM3 := (blk_cell BM.out 3).trans rfl; have yBM3 := blk_frozen BM.out 3; have zBM4 := (blk_cell BM.out 4).trans rfl; have yBM4 := blk_frozen BM.out 4; have zBM5 := (blk_cell BM.out 5).trans rfl; have yBM5 := blk_frozen BM.out 5; have zBM6 := (blk_cell BM.out 6).trans rfl; have yBM6 := blk_frozen BM.out 6; have zBM7 := (blk_cell BM.out 7).trans rfl; have yBM7 := blk_frozen BM.out 7; have zBM8 := (blk_cell BM.out 8).trans rfl; have yBM8 := blk_frozen BM.out 8))
    all_goals (go_ret; exact ⟨rfl, HB.out⟩)
  case pos =>
  have e3 : (rg != 0) = false := by simpa using hr0
  have HR0 := Aside0.mk hr0
  clear hr0
  by_cases hgd : l.length ≤ 64 ∧ ∀ p ∈ l, good p
  case neg =>
    have HNG := Aside0.mk hgd
    clear hgd
    go_enter Try.func3, Try.ntmps3
    go_wp2_with (first
      | (go_at_call 5; rw [← HWZ.out]; refine (alive_c _).mono ?_; rintro e w1 ⟨rfl, hb⟩; have BG := Aside0.mk (blk_below BG.out hb); have BM := Aside0.mk (blk_below BM.out hb); have HB := Aside0.mk (HB.out.trans (hb.mono HB.out.size)); clear hb; have zBG0 := (blk_cell BG.out 0).trans rfl; have yBG0 := blk_frozen BG.out 0; have zBG1 := (blk_cell BG.out 1).trans rfl; have yBG1 := blk_frozen BG.out 1; have zBG2 := (blk_cell BG.out 2).trans rfl; have yBG2 := blk_frozen BG.out 2; have zBG3 := (blk_cell BG.out 3).trans rfl; have yBG3 := blk_frozen BG.out 3; have zBG4 := (blk_cell BG.out 4).trans rfl; have yBG4 := blk_frozen BG.out 4; have zBG5 := (blk_cell BG.out 5).trans rfl; have yBG5 := blk_frozen BG.out 5; have zBG6 := (blk_cell BG.out 6).trans rfl; have yBG6 := blk_frozen BG.out 6; have zBG7 := (blk_cell BG.out 7).trans rfl; have yBG7 := blk_frozen BG.out 7; have zBM0 := (blk_cell BM.out 0).trans rfl; have yBM0 := blk_frozen BM.out 0; have zBM1 := (blk_cell BM.out 1).trans rfl; have yBM1 := blk_frozen BM.out 1; have zBM2 := (blk_cell BM.out 2).trans rfl; have yBM2 := blk_frozen BM.out 2; have zBM3 := (blk_cell BM.out 3).trans rfl; have yBM3 := blk_frozen BM.out 3; have zBM4 := (blk_cell BM.out 4).trans rfl; have yBM4 := blk_frozen BM.out 4; have zBM5 := (blk_cell BM.out 5).trans rfl; have yBM5 := blk_frozen BM.out 5; have zBM6 := (blk_cell BM.out 6).trans rfl; have yBM6 := blk_frozen BM.out 6; have zBM7 := (blk_cell BM.out 7).trans rfl; have yBM7 := blk_frozen BM.out 7; have zBM8 := (blk_cell BM.out 8).trans rfl; have yBM8 := blk_frozen BM.out 8)
      | (go_at_call 6; refine (right28_c g A c _ (Kd.C_below HC.out HB.out) HN.out.1 (by have := HG20.out; omega)).mono ?_; rintro e w2 ⟨rfl, hb⟩; rw [← HRG.out]; have BG := Aside0.mk (blk_below BG.out hb); have BM := Aside0.mk (blk_below BM.out hb); have HB := Aside0.mk (HB.out.trans (hb.mono HB.out.size)); clear hb; have zBG0 := (blk_cell BG.out 0).trans rfl; have yBG0 := blk_frozen BG.out 0; have zBG1 := (blk_cell BG.out 1).trans rfl; have yBG1 := blk_frozen BG.out 1; have zBG2 := (blk_cell BG.out 2).trans rfl; have yBG2 := blk_frozen BG.out 2; have zBG3 := (blk_cell BG.out 3).trans rfl; have yBG3 := blk_frozen BG.out 3; have zBG4 := (blk_cell BG.out 4).trans rfl; have yBG4 := blk_frozen BG.out 4; have zBG5 := (blk_cell BG.out 5).trans rfl; have yBG5 := blk_frozen BG.out 5; have zBG6 := (blk_cell BG.out 6).trans rfl; have yBG6 := blk_frozen BG.out 6; have zBG7 := (blk_cell BG.out 7).trans rfl; have yBG7 := blk_frozen BG.out 7; have zBM0 := (blk_cell BM.out 0).trans rfl; have yBM0 := blk_frozen BM.out 0; have zBM1 := (blk_cell BM.out 1).trans rfl; have yBM1 := blk_frozen BM.out 1; have zBM2 := (blk_cell BM.out 2).trans rfl; have yBM2 := blk_frozen BM.out 2; have zBM3 := (blk_cell BM.out 3).trans rfl; have yBM3 := blk_frozen BM.out 3; have zBM4 := (blk_cell BM.out 4).trans rfl; have yBM4 := blk_frozen BM.out 4; have zBM5 := (blk_cell BM.out 5).trans rfl; have yBM5 := blk_frozen BM.out 5; have zBM6 := (blk_cell BM.out 6).trans rfl; have yBM6 := blk_frozen BM.out 6; have zBM7 := (blk_cell BM.out 7).trans rfl; have yBM7 := blk_frozen BM.out 7; have zBM8 := (blk_cell BM.out 8).trans rfl; have yBM8 := blk_frozen BM.out 8)
      | (go_at_call 7; refine (right22_c B d l _ (Kd.C_below HD.out HB.out) HN.out.2).mono ?_; rintro e w3 ⟨⟨rl, rfl, hrl⟩, hb⟩; have hrl2 : (rl != 0) = true := (by simpa using fun h0 => HNG.out (hrl h0)); clear hrl; have BG := Aside0.mk (blk_below BG.out hb); have BM := Aside0.mk (blk_below BM.out hb); have HB := Aside0.mk (HB.out.trans (hb.mono HB.out.size)); clear hb; have zBG0 := (blk_cell BG.out 0).trans rfl; have yBG0 := blk_frozen BG.out 0; have zBG1 := (blk_cell BG.out 1).trans rfl; have yBG1 := blk_frozen BG.out 1; have zBG2 := (blk_cell BG.out 2).trans rfl; have yBG2 := blk_frozen BG.out 2; have zBG3 := (blk_cell BG.out 3).trans rfl; have yBG3 := blk_frozen BG.out 3; have zBG4 := (blk_cell BG.out 4).trans rfl; have yBG4 := blk_frozen BG.out 4; have zBG5 := (blk_cell BG.out 5).trans rfl; have yBG5 := blk_frozen BG.out 5; have zBG6 := (blk_cell BG.out 6).trans rfl; have yBG6 := blk_frozen BG.out 6; have zBG7 := (blk_cell BG.out 7).trans rfl; have yBG7 := blk_frozen BG.out 7; have zBM0 := (blk_cell BM.out 0).trans rfl; have yBM0 := blk_frozen BM.out 0; have zBM1 := (blk_cell BM.out 1).trans rfl; have yBM1 := blk_frozen BM.out 1; have zBM2 := (blk_cell BM.out 2).trans rfl; have yBM2 := blk_frozen BM.out 2; have zBM3 := (blk_cell BM.out 3).trans rfl; have yBM3 := blk_frozen BM.out 3; have zBM4 := (blk_cell BM.out 4).trans rfl; have yBM4 := blk_frozen BM.out 4; have zBM5 := (blk_cell BM.out 5).trans rfl; have yBM5 := blk_frozen BM.out 5; have zBM6 := (blk_cell BM.out 6).trans rfl; have yBM6 := blk_frozen BM.out 6; have zBM7 := (blk_cell BM.out 7).trans rfl; have yBM7 := blk_frozen BM.out 7; have zBM8 := (blk_cell BM.out 8).trans rfl; have yBM8 := blk_frozen BM.out 8))
    all_goals (go_ret; exact ⟨rfl, HB.out⟩)
  case pos =>
  have hr1 : gright g = 0 := by rw [← HRG.out]; exact HR0.out
  have hfi : Fine g l := fine_of hr1 hgd
  rcases pass_ways g l m t hfi.ok with ⟨h1, hpf⟩ | ⟨h1, h2, hpf⟩ | ⟨h1, h2, h3, hpf⟩ | ⟨h1, h2, h3, h4, hpf⟩
  · exact top_way0 g A c l B d m t w HC.out HN.out.1 HD.out HN.out.2 hfi hr1 HL20.out HG20.out h1 hpf
  · exact top_way1 g A c l B d m t w HC.out HN.out.1 HD.out HN.out.2 hfi hr1 HL20.out HG20.out h1 h2 hpf
  · exact top_way2 g A c l B d m t w HC.out HN.out.1 HD.out HN.out.2 hfi hr1 HL20.out HG20.out h1 h2 h3 hpf
  · exact top_way3 g A c l B d m t w HC.out HN.out.1 HD.out HN.out.2 hfi hr1 HL20.out HG20.out h1 h2 h3 h4 hpf
end Go.Proofs.Ytbfflokkdahjjaa.PHand
