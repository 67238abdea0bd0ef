/- media.Right: the error of a medium's contents. No condition. -/
import Derived.Test.YtbfflokkdahjjaaPAllB
import Derived.Test.YtbfflokkdahjjaaGBox
namespace Go.Proofs.Ytbfflokkdahjjaa.PAll
open Go.RowKit Go.Proofs.YtbfflokkdahjjaaW.PrintWords Go.Proofs.YtbfflokkdahjjaaW.PrintLast Go.Proofs.YtbfflokkdahjjaaW.PrintMore
set_option linter.unusedVariables false
set_option linter.unusedSimpArgs false
theorem within_t (n a b : Int) (w : World) (h : a ≤ n ∧ n ≤ b) : Calls Try.prog 31 #[.int .i64 n, .int .i64 a, .int .i64 b] w fun e w' => e = .returned (.bool true) ∧ Drawn0 w w' :=
  media_within.calls n a b true w (by unfold media_within.f; rw [if_pos h.1, decide_eq_true h.2])
theorem within_f (n a b : Int) (w : World) (h : ¬ (a ≤ n ∧ n ≤ b)) : Calls Try.prog 31 #[.int .i64 n, .int .i64 a, .int .i64 b] w fun e w' => e = .returned (.bool false) ∧ Drawn0 w w' :=
  media_within.calls n a b false w (by
    unfold media_within.f
    by_cases h1 : n ≥ a
    · rw [if_pos h1, decide_eq_false (fun h2 => h ⟨h1, h2⟩)]
    · rw [if_neg h1])
def mrange (a0 a1 a2 a3 a4 a5 a6 a7 : Int) : Prop := (1 ≤ a0 ∧ a0 ≤ 9999) ∧ (1 ≤ a2 ∧ a2 ≤ 9999) ∧ (0 ≤ a1 ∧ a1 ≤ 1000000) ∧ (-1 ≤ a3 ∧ a3 ≤ 20000000) ∧ (-1 ≤ a7 ∧ a7 ≤ 20000000) ∧ (0 ≤ a4 ∧ a4 ≤ 100) ∧ (-1 ≤ a5 ∧ a5 ≤ 231) ∧ (0 ≤ a6 ∧ a6 ≤ 9999)
instance (a0 a1 a2 a3 a4 a5 a6 a7 : Int) : Decidable (mrange a0 a1 a2 a3 a4 a5 a6 a7) := by unfold mrange; infer_instance
def mstate (a3 a5 a6 a7 : Int) : Prop := (a3 = -1 ∧ a7 ≠ -1) ∨ (a7 = -1 ∧ (a6 ≠ 0 ∨ a5 ≠ -1)) ∨ a3 > a7
instance (a3 a5 a6 a7 : Int) : Decidable (mstate a3 a5 a6 a7) := by unfold mstate; infer_instance
def mright (a0 a1 a2 a3 a4 a5 a6 a7 : Int) : Int := if mrange a0 a1 a2 a3 a4 a5 a6 a7 then (if mstate a3 a5 a6 a7 then 10 else 0) else 2
def media_Right.f (a0 a1 a2 a3 a4 a5 a6 a7 a8 : Int) : Option Int := some (mright a0 a1 a2 a3 a4 a5 a6 a7)
set_option maxHeartbeats 4000000 in
set_option maxRecDepth 100000 in
theorem media_Right.calls (a0_0 : Int) (a0_1 : Int) (a0_2 : Int) (a0_3 : Int) (a0_4 : Int) (a0_5 : Int) (a0_6 : Int) (a0_7 : Int) (a0_8 : Int) (r : Int) (w : World) (h : media_Right.f a0_0 a0_1 a0_2 a0_3 a0_4 a0_5 a0_6 a0_7 a0_8 = some r) :
    Calls Try.prog 18 #[.agg #[.int .i64 a0_0, .int .i64 a0_1, .int .i64 a0_2, .int .i64 a0_3, .int .i64 a0_4, .int .i64 a0_5, .int .i64 a0_6, .int .i64 a0_7, .int .u64 a0_8]] w fun e w' => e = .returned (.int .i64 r) ∧ Below w.heap.size w w' := by
  unfold media_Right.f at h
  injection h with h
  subst h
  have hu := Try.underlying30
  by_cases h0 : 1 ≤ a0_0 ∧ a0_0 ≤ 9999
  case neg =>
    rw [show mright a0_0 a0_1 a0_2 a0_3 a0_4 a0_5 a0_6 a0_7 = 2 from if_neg (fun h => h0 h.1)]
    have H0 := Aside0.mk h0
    clear h0
    go_enter Try.func18, Try.ntmps18
    go_wp2_with (first | (go_at_call 31; with_reducible refine (within_f _ _ _ _ H0.out).mono ?_; rintro e w1 ⟨rfl, ⟨⟨q, rfl⟩⟩⟩))
    go_ret
    exact ⟨rfl, box_drew _ _ _⟩
  case pos =>
    have H0 := Aside0.mk h0
    by_cases h2 : 1 ≤ a0_2 ∧ a0_2 ≤ 9999
    case neg =>
      rw [show mright a0_0 a0_1 a0_2 a0_3 a0_4 a0_5 a0_6 a0_7 = 2 from if_neg (fun h => h2 h.2.1)]
      have H2 := Aside0.mk h2
      clear h2
      go_enter Try.func18, Try.ntmps18
      go_wp2_with (first | (go_at_call 31; with_reducible refine (within_t _ _ _ _ H0.out).mono ?_; rintro e w1 ⟨rfl, ⟨⟨q, rfl⟩⟩⟩) | (go_at_call 31; with_reducible refine (within_f _ _ _ _ H2.out).mono ?_; rintro e w1 ⟨rfl, ⟨⟨q, rfl⟩⟩⟩))
      go_ret
      exact ⟨rfl, box_drew _ _ _⟩
    case pos =>
      have H2 := Aside0.mk h2
      by_cases h1 : 0 ≤ a0_1 ∧ a0_1 ≤ 1000000
      case neg =>
        rw [show mright a0_0 a0_1 a0_2 a0_3 a0_4 a0_5 a0_6 a0_7 = 2 from if_neg (fun h => h1 h.2.2.1)]
        have H1 := Aside0.mk h1
        clear h1
        go_enter Try.func18, Try.ntmps18
        go_wp2_with (first | (go_at_call 31; with_reducible refine (within_t _ _ _ _ H0.out).mono ?_; rintro e w1 ⟨rfl, ⟨⟨q, rfl⟩⟩⟩) | (go_at_call 31; with_reducible refine (within_t _ _ _ _ H2.out).mono ?_; rintro e w1 ⟨rfl, ⟨⟨q, rfl⟩⟩⟩) | (go_at_call 31; with_reducible refine (within_f _ _ _ _ H1.out).mono ?_; rintro e w1 ⟨rfl, ⟨⟨q, rfl⟩⟩⟩))
        go_ret
        exact ⟨rfl, box_drew _ _ _⟩
      case pos =>
        have H1 := Aside0.mk h1
        by_cases h3 : -1 ≤ a0_3 ∧ a0_3 ≤ 20000000
        case neg =>
          rw [show mright a0_0 a0_1 a0_2 a0_3 a0_4 a0_5 a0_6 a0_7 = 2 from if_neg (fun h => h3 h.2.2.2.1)]
          have H3 := Aside0.mk h3
          clear h3
          go_enter Try.func18, Try.ntmps18
          go_wp2_with (first | (go_at_call 31; with_reducible refine (within_t _ _ _ _ H0.out).mono ?_; rintro e w1 ⟨rfl, ⟨⟨q, rfl⟩⟩⟩) | (go_at_call 31; with_reducible refine (within_t _ _ _ _ H2.out).mono ?_; rintro e w1 ⟨rfl, ⟨⟨q, rfl⟩⟩⟩) | (go_at_call 31; with_reducible refine (within_t _ _ _ _ H1.out).mono ?_; rintro e w1 ⟨rfl, ⟨⟨q, rfl⟩⟩⟩) | (go_at_call 31; with_reducible refine (within_f _ _ _ _ H3.out).mono ?_; rintro e w1 ⟨rfl, ⟨⟨q, rfl⟩⟩⟩))
          go_ret
          exact ⟨rfl, box_drew _ _ _⟩
        case pos =>
          have H3 := Aside0.mk h3
          by_cases h7 : -1 ≤ a0_7 ∧ a0_7 ≤ 20000000
          case neg =>
            rw [show mright a0_0 a0_1 a0_2 a0_3 a0_4 a0_5 a0_6 a0_7 = 2 from if_neg (fun h => h7 h.2.2.2.2.1)]
            have H7 := Aside0.mk h7
            clear h7
            go_enter Try.func18, Try.ntmps18
            go_wp2_with (first | (go_at_call 31; with_reducible refine (within_t _ _ _ _ H0.out).mono ?_; rintro e w1 ⟨rfl, ⟨⟨q, rfl⟩⟩⟩) | (go_at_call 31; with_reducible refine (within_t _ _ _ _ H2.out).mono ?_; rintro e w1 ⟨rfl, ⟨⟨q, rfl⟩⟩⟩) | (go_at_call 31; with_reducible refine (within_t _ _ _ _ H1.out).mono ?_; rintro e w1 ⟨rfl, ⟨⟨q, rfl⟩⟩⟩) | (go_at_call 31; with_reducible refine (within_t _ _ _ _ H3.out).mono ?_; rintro e w1 ⟨rfl, ⟨⟨q, rfl⟩⟩⟩) | (go_at_call 31; with_reducible refine (within_f _ _ _ _ H7.out).mono ?_; rintro e w1 ⟨rfl, ⟨⟨q, rfl⟩⟩⟩))
            go_ret
            exact ⟨rfl, box_drew _ _ _⟩
          case pos =>
            have H7 := Aside0.mk h7
            by_cases h4 : 0 ≤ a0_4 ∧ a0_4 ≤ 100
            case neg =>
              rw [show mright a0_0 a0_1 a0_2 a0_3 a0_4 a0_5 a0_6 a0_7 = 2 from if_neg (fun h => h4 h.2.2.2.2.2.1)]
              have H4 := Aside0.mk h4
              clear h4
              go_enter Try.func18, Try.ntmps18
              go_wp2_with (first | (go_at_call 31; with_reducible refine (within_t _ _ _ _ H0.out).mono ?_; rintro e w1 ⟨rfl, ⟨⟨q, rfl⟩⟩⟩) | (go_at_call 31; with_reducible refine (within_t _ _ _ _ H2.out).mono ?_; rintro e w1 ⟨rfl, ⟨⟨q, rfl⟩⟩⟩) | (go_at_call 31; with_reducible refine (within_t _ _ _ _ H1.out).mono ?_; rintro e w1 ⟨rfl, ⟨⟨q, rfl⟩⟩⟩) | (go_at_call 31; with_reducible refine (within_t _ _ _ _ H3.out).mono ?_; rintro e w1 ⟨rfl, ⟨⟨q, rfl⟩⟩⟩) | (go_at_call 31; with_reducible refine (within_t _ _ _ _ H7.out).mono ?_; rintro e w1 ⟨rfl, ⟨⟨q, rfl⟩⟩⟩) | (go_at_call 31; with_reducible refine (within_f _ _ _ _ H4.out).mono ?_; rintro e w1 ⟨rfl, ⟨⟨q, rfl⟩⟩⟩))
              go_ret
              exact ⟨rfl, box_drew _ _ _⟩
            case pos =>
              have H4 := Aside0.mk h4
              by_cases h5 : -1 ≤ a0_5 ∧ a0_5 ≤ 231
              case neg =>
                rw [show mright a0_0 a0_1 a0_2 a0_3 a0_4 a0_5 a0_6 a0_7 = 2 from if_neg (fun h => h5 h.2.2.2.2.2.2.1)]
                have H5 := Aside0.mk h5
                clear h5
                go_enter Try.func18, Try.ntmps18
                go_wp2_with (first | (go_at_call 31; with_reducible refine (within_t _ _ _ _ H0.out).mono ?_; rintro e w1 ⟨rfl, ⟨⟨q, rfl⟩⟩⟩) | (go_at_call 31; with_reducible refine (within_t _ _ _ _ H2.out).mono ?_; rintro e w1 ⟨rfl, ⟨⟨q, rfl⟩⟩⟩) | (go_at_call 31; with_reducible refine (within_t _ _ _ _ H1.out).mono ?_; rintro e w1 ⟨rfl, ⟨⟨q, rfl⟩⟩⟩) | (go_at_call 31; with_reducible refine (within_t _ _ _ _ H3.out).mono ?_; rintro e w1 ⟨rfl, ⟨⟨q, rfl⟩⟩⟩) | (go_at_call 31; with_reducible refine (within_t _ _ _ _ H7.out).mono ?_; rintro e w1 ⟨rfl, ⟨⟨q, rfl⟩⟩⟩) | (go_at_call 31; with_reducible refine (within_t _ _ _ _ H4.out).mono ?_; rintro e w1 ⟨rfl, ⟨⟨q, rfl⟩⟩⟩) | (go_at_call 31; with_reducible refine (within_f _ _ _ _ H5.out).mono ?_; rintro e w1 ⟨rfl, ⟨⟨q, rfl⟩⟩⟩))
                go_ret
                exact ⟨rfl, box_drew _ _ _⟩
              case pos =>
                have H5 := Aside0.mk h5
                by_cases h6 : 0 ≤ a0_6 ∧ a0_6 ≤ 9999
                case neg =>
                  rw [show mright a0_0 a0_1 a0_2 a0_3 a0_4 a0_5 a0_6 a0_7 = 2 from if_neg (fun h => h6 h.2.2.2.2.2.2.2)]
                  have H6 := Aside0.mk h6
                  clear h6
                  go_enter Try.func18, Try.ntmps18
                  go_wp2_with (first | (go_at_call 31; with_reducible refine (within_t _ _ _ _ H0.out).mono ?_; rintro e w1 ⟨rfl, ⟨⟨q, rfl⟩⟩⟩) | (go_at_call 31; with_reducible refine (within_t _ _ _ _ H2.out).mono ?_; rintro e w1 ⟨rfl, ⟨⟨q, rfl⟩⟩⟩) | (go_at_call 31; with_reducible refine (within_t _ _ _ _ H1.out).mono ?_; rintro e w1 ⟨rfl, ⟨⟨q, rfl⟩⟩⟩) | (go_at_call 31; with_reducible refine (within_t _ _ _ _ H3.out).mono ?_; rintro e w1 ⟨rfl, ⟨⟨q, rfl⟩⟩⟩) | (go_at_call 31; with_reducible refine (within_t _ _ _ _ H7.out).mono ?_; rintro e w1 ⟨rfl, ⟨⟨q, rfl⟩⟩⟩) | (go_at_call 31; with_reducible refine (within_t _ _ _ _ H4.out).mono ?_; rintro e w1 ⟨rfl, ⟨⟨q, rfl⟩⟩⟩) | (go_at_call 31; with_reducible refine (within_t _ _ _ _ H5.out).mono ?_; rintro e w1 ⟨rfl, ⟨⟨q, rfl⟩⟩⟩) | (go_at_call 31; with_reducible refine (within_f _ _ _ _ H6.out).mono ?_; rintro e w1 ⟨rfl, ⟨⟨q, rfl⟩⟩⟩))
                  go_ret
                  exact ⟨rfl, box_drew _ _ _⟩
                case pos =>
                  have H6 := Aside0.mk h6
                  rw [show mright a0_0 a0_1 a0_2 a0_3 a0_4 a0_5 a0_6 a0_7 = if mstate a0_3 a0_5 a0_6 a0_7 then 10 else 0 from if_pos ⟨h0, h2, h1, h3, h7, h4, h5, h6⟩]
                  clear h0 h2 h1 h3 h7 h4 h5 h6
                  obtain ⟨r, hr⟩ : ∃ r : Int, r = if mstate a0_3 a0_5 a0_6 a0_7 then 10 else 0 := ⟨_, rfl⟩
                  rw [← hr]
                  have HR := Aside0.mk hr
                  clear hr
                  go_enter Try.func18, Try.ntmps18
                  go_wp2_with (first | (go_at_call 31; with_reducible refine (within_t _ _ _ _ H0.out).mono ?_; rintro e w1 ⟨rfl, ⟨⟨q, rfl⟩⟩⟩) | (go_at_call 31; with_reducible refine (within_t _ _ _ _ H2.out).mono ?_; rintro e w1 ⟨rfl, ⟨⟨q, rfl⟩⟩⟩) | (go_at_call 31; with_reducible refine (within_t _ _ _ _ H1.out).mono ?_; rintro e w1 ⟨rfl, ⟨⟨q, rfl⟩⟩⟩) | (go_at_call 31; with_reducible refine (within_t _ _ _ _ H3.out).mono ?_; rintro e w1 ⟨rfl, ⟨⟨q, rfl⟩⟩⟩) | (go_at_call 31; with_reducible refine (within_t _ _ _ _ H7.out).mono ?_; rintro e w1 ⟨rfl, ⟨⟨q, rfl⟩⟩⟩) | (go_at_call 31; with_reducible refine (within_t _ _ _ _ H4.out).mono ?_; rintro e w1 ⟨rfl, ⟨⟨q, rfl⟩⟩⟩) | (go_at_call 31; with_reducible refine (within_t _ _ _ _ H5.out).mono ?_; rintro e w1 ⟨rfl, ⟨⟨q, rfl⟩⟩⟩) | (go_at_call 31; with_reducible refine (within_t _ _ _ _ H6.out).mono ?_; rintro e w1 ⟨rfl, ⟨⟨q, rfl⟩⟩⟩))
                  all_goals (go_ret; refine ⟨?_, box_drew _ _ _⟩; first | (rw [show r = 10 from HR.out.trans (if_pos (by unfold mstate; omega))]; rfl) | (rw [show r = 0 from HR.out.trans (if_neg (by unfold mstate; omega))]; rfl) | (exfalso; omega))
end Go.Proofs.Ytbfflokkdahjjaa.PAll
