/- What each of these functions computes, and its contract over the machine: printed by a program out of the translation. No condition but those that each theorem states. -/
import Derived.Test.YtfjnpdgjigkbcaaPAllx0
import Derived.Test.YtfjnpdgjigkbcaaGOwn
namespace Go.Proofs.Ytfjnpdgjigkbcaa.PAll
open Go.RowKit Go.Proofs.YtfjnpdgjigkbcaaW.PrintWords Go.Proofs.YtfjnpdgjigkbcaaW.PrintLast Go.Proofs.YtfjnpdgjigkbcaaW.PrintMore
attribute [local go_sem] max2_int min2_int max_two min_two max_three min_three max_four min_four   -- for this text's walks alone
set_option linter.unusedVariables false
set_option linter.unusedSimpArgs false

/-! ### skiarearef50_Grow: function 16 -/
mutual
def skiarearef50_Grow.j0 : Nat → List (S34) → Int → Int → Bool → Option ((List (S34)) × Int)
  | 0, _, _, _, _ => none
  | k + 1, x0, x1, x2, x24 => if x24 = true then (some (([] : List (S34)), 2)) else (if x2 > 10000 then (skiarearef50_Grow.j1 k x0 (wrap64 (x1 + (wrap64 (Int.tdiv (wrap64 (x2 - 10000)) 1000))))) else (skiarearef50_Grow.j1 k x0 x1))
def skiarearef50_Grow.j1 : Nat → List (S34) → Int → Option ((List (S34)) × Int)
  | 0, _, _ => none
  | k + 1, x0, x8 => (skiarearef50_Own.f x0).bind fun t150 => (skiarearef50_Grow.l0 k x8 t150 0)
def skiarearef50_Grow.l0 : Nat → Int → List (S34) → Int → Option ((List (S34)) × Int)
  | 0, _, _, _ => none
  | k + 1, x8, x9, x10 => if x10 < (x9.length : Int) then (if 0 ≤ x10 then ((some (x9.set (x10 : Int).toNat (⟨(rd_T34 x9 x10).f0, (rd_T34 x9 x10).f1, (rd_T34 x9 x10).f2, (rd_T34 x9 x10).f3, wrap64 (((rd_T34 x9 x10).f4) + x8), (rd_T34 x9 x10).f5⟩ : S34) : List (S34))).bind fun y154 => (if ((rd_T34 y154 x10).f4) > 100000 then (skiarearef50_Grow.l0 k x8 (y154.set (x10 : Int).toNat (⟨(rd_T34 y154 x10).f0, (rd_T34 y154 x10).f1, (rd_T34 y154 x10).f2, (rd_T34 y154 x10).f3, 100000, (rd_T34 y154 x10).f5⟩ : S34)) (wrap64 (x10 + 1))) else (skiarearef50_Grow.l0 k x8 y154 (wrap64 (x10 + 1))))) else (none)) else (some (x9, 0))
end
def skiarearef50_Grow.f (k : Nat) (l0 : List (S34)) (a1 : Int) (a2 : Int) : Option ((List (S34)) × Int) := if a1 < 0 then (skiarearef50_Grow.j0 k l0 a1 a2 true) else (if a1 > 2000 then (skiarearef50_Grow.j0 k l0 a1 a2 true) else (if a2 < 0 then (skiarearef50_Grow.j0 k l0 a1 a2 true) else (skiarearef50_Grow.j0 k l0 a1 a2 (decide (a2 > 100000)))))
theorem skiarearef50_Grow.mono_l : ∀ k, (∀ y0 y1 y2 y3, LeO (skiarearef50_Grow.j0 k y0 y1 y2 y3) (skiarearef50_Grow.j0 (k + 1) y0 y1 y2 y3)) ∧ (∀ y0 y1, LeO (skiarearef50_Grow.j1 k y0 y1) (skiarearef50_Grow.j1 (k + 1) y0 y1)) ∧ (∀ y0 y1 y2, LeO (skiarearef50_Grow.l0 k y0 y1 y2) (skiarearef50_Grow.l0 (k + 1) y0 y1 y2))
  | 0 => ⟨fun _ _ _ _ r h => by simp [skiarearef50_Grow.j0] at h, fun _ _ r h => by simp [skiarearef50_Grow.j1] at h, fun _ _ _ r h => by simp [skiarearef50_Grow.l0] at h⟩
  | k + 1 => by
    obtain ⟨ih0, ih1, ih2⟩ := skiarearef50_Grow.mono_l k
    refine ⟨?_, ?_, ?_⟩
    · intro y0 y1 y2 y3
      unfold skiarearef50_Grow.j0
      repeat' first
      | (with_reducible exact ih0 _ _ _ _)
      | (with_reducible exact ih1 _ _)
      | (with_reducible exact ih2 _ _ _)
      | (with_reducible exact LeO.refl _)
      | (with_reducible exact LeO.none _)
      | (with_reducible refine LeO.ite ?_ ?_)
      | (with_reducible refine LeO.bind ?_ (fun _ => ?_))
      | exact ih0 _ _ _ _
      | exact ih1 _ _
      | exact ih2 _ _ _
      | exact LeO.none _
      | refine LeO.ite ?_ ?_
      | refine LeO.bind ?_ (fun _ => ?_)
    · intro y0 y1
      unfold skiarearef50_Grow.j1
      repeat' first
      | (with_reducible exact ih0 _ _ _ _)
      | (with_reducible exact ih1 _ _)
      | (with_reducible exact ih2 _ _ _)
      | (with_reducible exact LeO.refl _)
      | (with_reducible exact LeO.none _)
      | (with_reducible refine LeO.ite ?_ ?_)
      | (with_reducible refine LeO.bind ?_ (fun _ => ?_))
      | exact ih0 _ _ _ _
      | exact ih1 _ _
      | exact ih2 _ _ _
      | exact LeO.none _
      | refine LeO.ite ?_ ?_
      | refine LeO.bind ?_ (fun _ => ?_)
    · intro y0 y1 y2
      unfold skiarearef50_Grow.l0
      repeat' first
      | (with_reducible exact ih0 _ _ _ _)
      | (with_reducible exact ih1 _ _)
      | (with_reducible exact ih2 _ _ _)
      | (with_reducible exact LeO.refl _)
      | (with_reducible exact LeO.none _)
      | (with_reducible refine LeO.ite ?_ ?_)
      | (with_reducible refine LeO.bind ?_ (fun _ => ?_))
      | exact ih0 _ _ _ _
      | exact ih1 _ _
      | exact ih2 _ _ _
      | exact LeO.none _
      | refine LeO.ite ?_ ?_
      | refine LeO.bind ?_ (fun _ => ?_)
theorem skiarearef50_Grow.mono : ∀ a0 a1 a2 k, LeO (skiarearef50_Grow.f k a0 a1 a2) (skiarearef50_Grow.f (k + 1) a0 a1 a2) := by
  intro a0 a1 a2 k
  obtain ⟨ih0, ih1, ih2⟩ := skiarearef50_Grow.mono_l k
  unfold skiarearef50_Grow.f
  repeat' first
      | (with_reducible exact ih0 _ _ _ _)
      | (with_reducible exact ih1 _ _)
      | (with_reducible exact ih2 _ _ _)
      | (with_reducible exact LeO.refl _)
      | (with_reducible exact LeO.none _)
      | (with_reducible refine LeO.ite ?_ ?_)
      | (with_reducible refine LeO.bind ?_ (fun _ => ?_))
      | exact ih0 _ _ _ _
      | exact ih1 _ _
      | exact ih2 _ _ _
      | exact LeO.none _
      | refine LeO.ite ?_ ?_
      | refine LeO.bind ?_ (fun _ => ?_)
set_option maxHeartbeats 8000000 in
set_option maxRecDepth 100000 in
theorem skiarearef50_Grow.calls (k : Nat) (A0 : Option Addr) (c0 : Nat) (l0 : List (S34)) (a1 : Int) (a2 : Int) (r1 : List (S34)) (r2 : Int) (w : World) (hr0 : Kd.C k34 w A0 l0.length l0) (hc0 : l0.length ≤ c0) (h : skiarearef50_Grow.f k l0 a1 a2 = some (r1, r2)) :
    Calls Try.prog 16 #[.slice A0 l0.length c0, .int .i64 a1, .int .i64 a2] w fun e w' => ∃ v0_ : Value, e = .returned (.tuple #[v0_, .int .i64 r2]) ∧ Kd.S k34 34 w' w.heap.size (fun _ => True) v0_ r1 ∧ Below w.heap.size w w' := by
  have HR0 := Aside0.mk hr0
  have HC0 := Aside0.mk hc0
  clear hr0 hc0
  have HB := Aside0.mk (Below.refl w.heap.size w)
  have H : (if a1 < 0 then (skiarearef50_Grow.j0 k l0 a1 a2 true) else (if a1 > 2000 then (skiarearef50_Grow.j0 k l0 a1 a2 true) else (if a2 < 0 then (skiarearef50_Grow.j0 k l0 a1 a2 true) else (skiarearef50_Grow.j0 k l0 a1 a2 (decide (a2 > 100000)))))) = some (r1, r2) := h
  clear h
  have HC4 := Aside0.mk H
  clear H
  go_enter Try.func16, Try.ntmps16
  go_upto_region 1 with (fail)
  go_cut [24] (fun v24 wc => ∃ (kq : Nat) (x24_3 : Bool), v24 = .bool x24_3 ∧ Aside0 (skiarearef50_Grow.j0 kq l0 a1 a2 x24_3 = some (r1, r2)) ∧ Aside0 (kq ≤ k) ∧ Aside0 (Below w.heap.size w wc))
  case first =>
    have H := HC4.out
    clear HC4
    by_cases c5 : a1 < 0
    · rw [if_pos c5] at H
      have c5b0 : decide (a1 < 0) = true := decide_eq_true c5
      clear c5
      (first | rw [c5b0] | (simp only [i64_w, i32_w]; rw [c5b0]) | skip)
      have H' := Aside0.mk H
      clear H
      go_wp2
      go_meet
      case rel => exact ⟨_, (true), (by first | rfl | (simp; done) | (simp [*]; done)), H', ⟨by first | omega | exact Nat.le_refl _⟩, ⟨by repeat (first | (with_reducible first | exact HB.out | apply below_alloc | apply pw_below_drewN | apply below_drew1) | exact HB.out)⟩⟩
    · rw [if_neg c5] at H
      have c5b0 : decide (a1 < 0) = false := decide_eq_false c5
      clear c5
      (first | rw [c5b0] | (simp only [i64_w, i32_w]; rw [c5b0]) | skip)
      by_cases c6 : a1 > 2000
      · rw [if_pos c6] at H
        have c6b0 : decide (2000 < a1) = true := decide_eq_true c6
        clear c6
        have H' := Aside0.mk H
        clear H
        go_wp2
        go_meet
        case rel => exact ⟨_, (true), (by first | rfl | (simp; done) | (simp [*]; done)), H', ⟨by first | omega | exact Nat.le_refl _⟩, ⟨by repeat (first | (with_reducible first | exact HB.out | apply below_alloc | apply pw_below_drewN | apply below_drew1) | exact HB.out)⟩⟩
      · rw [if_neg c6] at H
        have c6b0 : decide (2000 < a1) = false := decide_eq_false c6
        clear c6
        by_cases c7 : a2 < 0
        · rw [if_pos c7] at H
          have c7b0 : decide (a2 < 0) = true := decide_eq_true c7
          clear c7
          have H' := Aside0.mk H
          clear H
          go_wp2
          go_meet
          case rel => exact ⟨_, (true), (by first | rfl | (simp; done) | (simp [*]; done)), H', ⟨by first | omega | exact Nat.le_refl _⟩, ⟨by repeat (first | (with_reducible first | exact HB.out | apply below_alloc | apply pw_below_drewN | apply below_drew1) | exact HB.out)⟩⟩
        · rw [if_neg c7] at H
          have c7b0 : decide (a2 < 0) = false := decide_eq_false c7
          clear c7
          have H' := Aside0.mk H
          clear H
          go_wp2
          go_meet
          case rel => exact ⟨_, (decide (a2 > 100000)), (by first | rfl | (simp; done) | (simp [*]; done)), H', ⟨by first | omega | exact Nat.le_refl _⟩, ⟨by repeat (first | (with_reducible first | exact HB.out | apply below_alloc | apply pw_below_drewN | apply below_drew1) | exact HB.out)⟩⟩
  case rest =>
    clear HC4
    try clear c1
    try clear p2
    try clear c5
    try clear c5b0
    try clear c6
    try clear c6b0
    try clear c7
    try clear c7b0
    obtain ⟨kq, x24_3, rfl, HA, HJ3, HB⟩ := hcut
    cases kq with
    | zero => exact absurd HA.out (by simp [skiarearef50_Grow.j0])
    | succ kj3 =>
      have H := HA.out
      clear HA
      simp only [skiarearef50_Grow.j0] at H
      by_cases c8 : x24_3 = true
      · subst c8
        have H1 : (some (([] : List (S34)), 2)) = some (r1, r2) := by rw [if_pos rfl] at H; exact H
        clear H
        have H := H1
        clear H1
        simp only [Option.some.injEq, Prod.mk.injEq] at H
        obtain ⟨rfl, rfl⟩ := H
        go_wp2
        go_ret2
        exact ⟨_, by first | rfl | (simp [errW_none, errW_some] <;> rfl) | (simp [*, errW_none, errW_some] <;> rfl), by first | exact Kd.S_nil _ _ _ _ _ | exact Kd.N_nil _ _ _ _ _ | exact Kd.V_nil _ _ _ _ _ | exact Kd.Q_nil _ _ _ _ _ | exact Kd.R_nil _ _ _ _ _, by repeat (first | (with_reducible first | exact HB.out | apply below_alloc | apply pw_below_drewN | apply below_drew1) | exact HB.out)⟩
      · replace c8 := Bool.eq_false_iff.mpr c8
        subst c8
        have H1 : (if a2 > 10000 then (skiarearef50_Grow.j1 kj3 l0 (wrap64 (a1 + (wrap64 (Int.tdiv (wrap64 (a2 - 10000)) 1000))))) else (skiarearef50_Grow.j1 kj3 l0 a1)) = some (r1, r2) := by rw [if_neg (show ¬ (false = true) by decide)] at H; exact H
        clear H
        have H := H1
        clear H1
        have HC9 := Aside0.mk H
        clear H
        go_upto_if 27 with (fail)
        go_cut [8] (fun v8 wc => ∃ (kq : Nat) (x8_8 : Int), v8 = .int .i64 x8_8 ∧ Aside0 (skiarearef50_Grow.j1 kq l0 x8_8 = some (r1, r2)) ∧ Aside0 (kq ≤ kj3) ∧ Aside0 (Below w.heap.size w wc))
        case first =>
          have H := HC9.out
          clear HC9
          by_cases c10 : a2 > 10000
          · rw [if_pos c10] at H
            have c10b0 : decide (10000 < a2) = true := decide_eq_true c10
            clear c10
            (first | rw [c10b0] | (simp only [i64_w, i32_w]; rw [c10b0]) | skip)
            have H' := Aside0.mk H
            clear H
            go_wp2
            go_meet
            case rel => exact ⟨_, (wrap64 (a1 + (wrap64 (Int.tdiv (wrap64 (a2 - 10000)) 1000)))), (by first | rfl | (simp; done) | (simp [*]; done)), H', ⟨by have := HJ3.out; first | omega | exact Nat.le_refl _⟩, ⟨by repeat (first | (with_reducible first | exact HB.out | apply below_alloc | apply pw_below_drewN | apply below_drew1) | exact HB.out)⟩⟩
          · rw [if_neg c10] at H
            have c10b0 : decide (10000 < a2) = false := decide_eq_false c10
            clear c10
            (first | rw [c10b0] | (simp only [i64_w, i32_w]; rw [c10b0]) | skip)
            have H' := Aside0.mk H
            clear H
            go_wp2
            go_meet
            case rel => exact ⟨_, (a1), (by first | rfl | (simp; done) | (simp [*]; done)), H', ⟨by have := HJ3.out; first | omega | exact Nat.le_refl _⟩, ⟨by repeat (first | (with_reducible first | exact HB.out | apply below_alloc | apply pw_below_drewN | apply below_drew1) | exact HB.out)⟩⟩
        case rest =>
          clear HC9
          try clear c1
          try clear p2
          try clear c5
          try clear c5b0
          try clear c6
          try clear c6b0
          try clear p6
          try clear c7
          try clear c7b0
          try clear c8
          try clear c10
          try clear c10b0
          try clear p2
          obtain ⟨kq, x8_8, rfl, HA, HJ8, HB⟩ := hcut
          cases kq with
          | zero => exact absurd HA.out (by simp [skiarearef50_Grow.j1])
          | succ kj8 =>
            have H := HA.out
            clear HA
            simp only [skiarearef50_Grow.j1] at H
            replace H := Option.bind_eq_some_iff.mp H
            obtain ⟨t150, A110, H⟩ := H
            replace H : (skiarearef50_Grow.l0 kj8 x8_8 t150 0) = some (r1, r2) := H
            have A11 := Aside0.mk A110
            clear A110
            have H' := Aside0.mk H
            clear H
            go_wp2_with (first | ((with_reducible refine gate_callee (f := 31) rfl ?_); refine goesL_ (some 34) rfl rfl Try.func31 (by kernel_rfl) rfl #[.slice A0 l0.length c0] rfl (by (try simp only [List.map_toArray, List.map_cons, List.map_nil]); first | done | rfl | (simp only [List.length_drop, List.length_take]; rfl)) ?_; (with_reducible refine (skiarearef50_Own.calls _ _ l0 t150 _ ?side1 ?side2 A11.out).mono ?_); (case side1 => repeat (first | exact (Kd.C_below HR0.out HB.out) | (with_reducible refine Kd.C_alloc ?_ _) | (with_reducible refine Kd.C_drewN ?_ _) | (with_reducible refine Kd.C_drew ?_))); (case side2 => exact HC0.out); rintro e w12 ⟨v151, rfl, ho0, hb⟩; refine ⟨_, rfl, ?_⟩; have n0_ := Aside0.mk (Kd.S_lower ho0 (below_size (by repeat (first | (with_reducible first | exact HB.out | apply below_alloc | apply pw_below_drewN | apply below_drew1) | exact HB.out)))); have n1_ := Aside0.mk (below_step (by repeat (first | (with_reducible first | exact HB.out | apply below_alloc | apply pw_below_drewN | apply below_drew1) | exact HB.out)) hb); clear HB; have HO152 := n0_; have HB := n1_; clear n0_ n1_; (try clear hb); (try clear hb2); (try clear hk); (try clear hi); (try clear ho0)))
            go_loopg [10] kj8 (fun kq v10 w' => ∃ (x9_3 : List (S34)) (x10_3 : Int), v10 = .int .i64 x10_3 ∧ Aside0 (skiarearef50_Grow.l0 kq x8_8 x9_3 x10_3 = some (r1, r2)) ∧ Aside0 (kq ≤ kj8) ∧ Aside0 (Kd.S k34 34 w' w.heap.size (fun _ => True) v151 x9_3) ∧ Aside0 (Below w.heap.size w w'))
            case atStart => exact ⟨(t150), (0), (by first | rfl | (simp; done) | (simp [*]; done)), H', ⟨Nat.le_refl _⟩, ⟨by (with_reducible repeat (first | apply Kd.S_alloc | apply Kd.S_drewN | apply Kd.S_drew)); exact HO152.out⟩, ⟨by repeat (first | (with_reducible first | exact HB.out | apply below_alloc | apply pw_below_drewN | apply below_drew1) | exact HB.out)⟩⟩
            case round =>
              clear H'
              try clear c1
              try clear p2
              try clear c3
              try clear c5
              try clear c5b0
              try clear c6
              try clear c6b0
              try clear p6
              try clear c7
              try clear c7b0
              try clear c8
              try clear c10
              try clear c10b0
              try clear p2
              try clear p6
              obtain ⟨x9_3, x10_3, rfl, HA, HK3, HO_9, HB⟩ := hrel
              cases gk with
              | zero => exact absurd HA.out (by simp [skiarearef50_Grow.l0])
              | succ k3 =>
                have H := HA.out
                clear HA
                simp only [skiarearef50_Grow.l0] at H
                by_cases c13 : x10_3 < (x9_3.length : Int)
                · rw [if_pos c13] at H
                  have c13b0 : decide (x10_3 < (x9_3.length : Int)) = true := decide_eq_true c13
                  clear c13
                  by_cases c14 : 0 ≤ x10_3
                  · rw [if_pos c14] at H
                    have c14b0 : decide (0 ≤ x10_3) = true := decide_eq_true c14
                    clear c14
                    obtain ⟨y154, hy154⟩ : ∃ y_ : List (S34), y_ = (x9_3.set (x10_3 : Int).toNat (⟨(rd_T34 x9_3 x10_3).f0, (rd_T34 x9_3 x10_3).f1, (rd_T34 x9_3 x10_3).f2, (rd_T34 x9_3 x10_3).f3, wrap64 (((rd_T34 x9_3 x10_3).f4) + x8_8), (rd_T34 x9_3 x10_3).f5⟩ : S34)) := ⟨_, rfl⟩
                    replace H : (if ((rd_T34 y154 x10_3).f4) > 100000 then (skiarearef50_Grow.l0 k3 x8_8 (y154.set (x10_3 : Int).toNat (⟨(rd_T34 y154 x10_3).f0, (rd_T34 y154 x10_3).f1, (rd_T34 y154 x10_3).f2, (rd_T34 y154 x10_3).f3, 100000, (rd_T34 y154 x10_3).f5⟩ : S34)) (wrap64 (x10_3 + 1))) else (skiarearef50_Grow.l0 k3 x8_8 y154 (wrap64 (x10_3 + 1)))) = some (r1, r2) := by first | (rw [hy154]; with_reducible exact H) | (have H2_ := (Option.bind_some _ _).symm.trans H; rw [hy154]; with_reducible exact H2_) | (have H2_ := (Option.bind_some _ _).symm.trans H; with_reducible exact H2_) | with_reducible exact H | (rw [hy154]; exact H) | exact H
                    have Ny154 := Aside0.mk hy154
                    clear hy154
                    by_cases c16 : ((rd_T34 y154 x10_3).f4) > 100000
                    · rw [if_pos c16] at H
                      have c16b0 : decide (100000 < ((rd_T34 y154 x10_3).f4)) = true := decide_eq_true c16
                      clear c16
                      obtain ⟨y156, hy156⟩ : ∃ y_ : List (S34), y_ = (y154.set (x10_3 : Int).toNat (⟨(rd_T34 y154 x10_3).f0, (rd_T34 y154 x10_3).f1, (rd_T34 y154 x10_3).f2, (rd_T34 y154 x10_3).f3, 100000, (rd_T34 y154 x10_3).f5⟩ : S34)) := ⟨_, rfl⟩
                      replace H : (skiarearef50_Grow.l0 k3 x8_8 y156 (wrap64 (x10_3 + 1))) = some (r1, r2) := by first | (rw [hy156]; with_reducible exact H) | (have H2_ := (Option.bind_some _ _).symm.trans H; rw [hy156]; with_reducible exact H2_) | (have H2_ := (Option.bind_some _ _).symm.trans H; with_reducible exact H2_) | with_reducible exact H | (rw [hy156]; exact H) | exact H
                      have Ny156 := Aside0.mk hy156
                      clear hy156
                      have H' := Aside0.mk H
                      clear H
                      obtain ⟨Ao18, co18, eo18⟩ := Kd.S_slice HO_9.out
                      subst eo18
                      have p153 : 0 ≤ (x10_3 : Int) := of_decide_eq_true (by first | (with_reducible assumption) | assumption)
                      have q153 : x10_3 < (x9_3.length : Int) := of_decide_eq_true (by first | (with_reducible assumption) | assumption)
                      obtain ⟨ad153, A153_1, c153_1, A153_2, c153_2, e153, hx153_0, hx153_1, hx153_2, hx153_3, hx153_4, hx153_5, hl153_1, hi153_1, hl153_2, hi153_2⟩ := at_T34 (Kd.S_reads' HO_9.out).2.2 x10_3 p153 q153
                      cases e153
                      obtain ⟨ce153, hce153, hMe153, hcc153⟩ := Kd.S_get HO_9.out z34 x10_3 p153 (by first | exact q153 | exact of_decide_eq_true (by first | (with_reducible assumption) | assumption) | (have e_ := (Kd.S_reads' HO_9.out).1; omega))
                      obtain ⟨ve153_1, ve153_2, rfl, ge153_1, ge153_2⟩ := k34_openM hMe153
                      have hv153_1 := hcc153 1 _ rfl
                      rw [add_field _ _ 1 (by omega)] at hv153_1
                      replace hv153_1 := Option.some.inj (hv153_1.symm.trans hx153_1)
                      rw [hv153_1] at ge153_1
                      have HL153_1 := Aside0.mk (show Kd.R (Kd.int .i64) 3 _ _ _ _ ((rd_T34 x9_3 x10_3).f1) from ge153_1)
                      clear hv153_1 ge153_1
                      have hv153_2 := hcc153 2 _ rfl
                      rw [add_field _ _ 2 (by omega)] at hv153_2
                      replace hv153_2 := Option.some.inj (hv153_2.symm.trans hx153_2)
                      rw [hv153_2] at ge153_2
                      have HL153_2 := Aside0.mk (show Kd.R (Kd.int .i64) 3 _ _ _ _ ((rd_T34 x9_3 x10_3).f2) from ge153_2)
                      clear hv153_2 ge153_2
                      clear hcc153 hce153
                      have HR153_1 := Aside0.mk hi153_1
                      have HC153_1 := Aside0.mk hl153_1
                      clear hi153_1 hl153_1
                      have HR153_2 := Aside0.mk hi153_2
                      have HC153_2 := Aside0.mk hl153_2
                      clear hi153_2 hl153_2
                      replace p153 := eq_true p153
                      replace q153 := eq_true q153
                      have p15 : 0 ≤ (x10_3 : Int) := of_decide_eq_true (by first | (with_reducible assumption) | assumption)
                      have q15 : (x10_3 : Int) < ((x9_3.length : Int) : Int) := of_decide_eq_true (by first | (with_reducible assumption) | assumption)
                      obtain ⟨go15, co15, eo15, gb15, gl15, cl15, HG15⟩ := Kd.S_form HO_9.out (by omega)
                      (first | cases eo15 | (injection eo15 with ea_ en_ ec_; (first | subst ea_ | (injection ea_ with ea_; subst ea_)); subst ec_; clear en_))
                      have GB15 := Aside0.mk gb15
                      have GG15 := Aside0.mk HG15
                      clear gb15 gl15 HG15
                      (first | simp only [add_plain] at hx153_0 | skip)
                      (first | simp only [add_plain] at hx153_1 | skip)
                      (first | simp only [add_plain] at hx153_2 | skip)
                      (first | simp only [add_plain] at hx153_3 | skip)
                      (first | simp only [add_plain] at hx153_4 | skip)
                      (first | simp only [add_plain] at hx153_5 | skip)
                      obtain ⟨_, ce15, hcl15, hM15, hcc15, hfr15, _, _⟩ := Kd.S_elem HO_9.out z34 (x10_3 : Int) p15 q15
                      obtain ⟨ve15_1, ve15_2, rfl, ge15_1, ge15_2⟩ := k34_openM hM15
                      have hx15_0 : wr.cell? ⟨go15, (x10_3 : Int).toNat * 6, none⟩ = some (.int .i64 ((rd_T34 x9_3 x10_3).f0)) := hcc15 0 _ rfl
                      have hx15_1 : wr.cell? ⟨go15, (x10_3 : Int).toNat * 6 + 1, none⟩ = some (ve15_1) := hcc15 1 _ rfl
                      have hx15_2 : wr.cell? ⟨go15, (x10_3 : Int).toNat * 6 + 2, none⟩ = some (ve15_2) := hcc15 2 _ rfl
                      have hx15_3 : wr.cell? ⟨go15, (x10_3 : Int).toNat * 6 + 3, none⟩ = some (.int .i64 ((rd_T34 x9_3 x10_3).f3)) := hcc15 3 _ rfl
                      have hx15_4 : wr.cell? ⟨go15, (x10_3 : Int).toNat * 6 + 4, none⟩ = some (.int .i64 ((rd_T34 x9_3 x10_3).f4)) := hcc15 4 _ rfl
                      have hx15_5 : wr.cell? ⟨go15, (x10_3 : Int).toNat * 6 + 5, none⟩ = some (.int .i64 ((rd_T34 x9_3 x10_3).f5)) := hcc15 5 _ rfl
                      have hf15_0 : wr.frozen? ⟨go15, (x10_3 : Int).toNat * 6, none⟩ = false := hfr15 0
                      have hf15_1 : wr.frozen? ⟨go15, (x10_3 : Int).toNat * 6 + 1, none⟩ = false := hfr15 1
                      have hf15_2 : wr.frozen? ⟨go15, (x10_3 : Int).toNat * 6 + 2, none⟩ = false := hfr15 2
                      have hf15_3 : wr.frozen? ⟨go15, (x10_3 : Int).toNat * 6 + 3, none⟩ = false := hfr15 3
                      have hf15_4 : wr.frozen? ⟨go15, (x10_3 : Int).toNat * 6 + 4, none⟩ = false := hfr15 4
                      have hf15_5 : wr.frozen? ⟨go15, (x10_3 : Int).toNat * 6 + 5, none⟩ = false := hfr15 5
                      clear hcl15 hcc15 hfr15 hM15
                      replace p15 := eq_true p15
                      replace q15 := eq_true q15
                      have HX19 := Aside0.mk (show Kd.S k34 34 wr w.heap.size (fun k_ => ((fun _ => True)) k_ ∧ ¬ ((fun _ => False)) k_) (.slice (some ⟨go15, 0, none⟩) x9_3.length co18) x9_3 from (by (with_reducible repeat (first | apply Kd.S_alloc | apply Kd.S_drewN | apply Kd.S_drew)); exact Kd.S_mono HO_9.out (fun k_ hk => ⟨trivial, fun e_ => e_⟩)))
                      obtain ⟨oki19, ce19, hcl19, hM19, hcc19, hfr19, hoki19, hH19⟩ := Kd.S_elem HX19.out z34 (x10_3 : Int) (of_decide_eq_true (by first | (with_reducible assumption) | assumption)) (by have h_ : (x10_3 : Int) < ((x9_3.length : Int) : Int) := of_decide_eq_true (by first | (with_reducible assumption) | assumption); first | exact h_ | (have e_ := (Kd.S_reads' HO_9.out).1; omega) | simpa using h_)
                      obtain ⟨ve19_1, ve19_2, rfl, ge19_1, ge19_2⟩ := k34_openM hM19
                      have HP19 := Kd.S_seg hH19 (of_decide_eq_true (by first | (with_reducible assumption) | assumption)) (by have h_ : (x10_3 : Int) < ((x9_3.length : Int) : Int) := of_decide_eq_true (by first | (with_reducible assumption) | assumption); first | exact h_ | (have e_ := (Kd.S_reads' HO_9.out).1; omega) | simpa using h_) (seg := [.int .i64 (wrap64 (((rd_T34 x9_3 x10_3).f4) + x8_8))]) (j := 4) (show 5 ≤ 6 from by decide) (x' := (⟨(rd_T34 x9_3 x10_3).f0, (rd_T34 x9_3 x10_3).f1, (rd_T34 x9_3 x10_3).f2, (rd_T34 x9_3 x10_3).f3, wrap64 (((rd_T34 x9_3 x10_3).f4) + x8_8), (rd_T34 x9_3 x10_3).f5⟩ : S34)) (k34_mkM _ _ _ (⟨(rd_T34 x9_3 x10_3).f0, (rd_T34 x9_3 x10_3).f1, (rd_T34 x9_3 x10_3).f2, (rd_T34 x9_3 x10_3).f3, wrap64 (((rd_T34 x9_3 x10_3).f4) + x8_8), (rd_T34 x9_3 x10_3).f5⟩ : S34) (Kd.R_mono ge19_1 (fun _ h_ => Or.inl h_)) (Kd.R_mono ge19_2 (fun _ h_ => Or.inl h_))) (fun _ hk => hk) (fun k_ hk_ => hk_.elim)
                      have hx19_4 := hcc19 4 _ rfl
                      (try simp only [show (k34).sz = 6 from rfl, Nat.mul_one, Nat.add_zero] at hx19_4)
                      have hf19_4 := hfr19 4
                      (try simp only [show (k34).sz = 6 from rfl, Nat.mul_one, Nat.add_zero] at hf19_4)
                      clear hcl19 hcc19 hfr19 hM19 hoki19 hH19
                      go_wp2_with (first | ((with_reducible refine gate_store (t := 3) (p := 51) rfl ?_); refine store_event (t := 3) (p := 51) (v := ?vo_w20) (w1 := (wr.setCell ⟨go15, (x10_3 : Int).toNat * 6 + 4, none⟩ (.int .i64 (wrap64 (((rd_T34 x9_3 x10_3).f4) + x8_8))))) ?hg ?ho ?hn ?hr ?_; (case ho => rfl); (case hg => rfl); (case hn => rfl); (case hr => first | (go_simp; done) | (go_simp; rfl)); intro w20 hw; have hg : wr.grownBy w20 (some go15) := (by rw [hw]; exact HP19.2); have hp_ : Kd.S k34 34 w20 w.heap.size (fun _ => True) (.slice (some ⟨go15, 0, none⟩) x9_3.length co18) y154 := (by rw [hw, Ny154.out]; exact HP19.1); clear HP19; have n0_ := Aside0.mk (hp_); have n1_ := Aside0.mk (Kd.R_after (v := (.slice (some ⟨go15, 0, none⟩) x9_3.length co18)) (v1 := (.slice (some ⟨go15, 0, none⟩) x9_3.length co18)) (ok := (fun _ => True)) (by (with_reducible repeat (first | apply Kd.R_alloc | apply Kd.R_drewN | apply Kd.R_drew)); exact HL153_1.out) hg (.inl rfl)); have n2_ := Aside0.mk (Kd.R_after (v := (.slice (some ⟨go15, 0, none⟩) x9_3.length co18)) (v1 := (.slice (some ⟨go15, 0, none⟩) x9_3.length co18)) (ok := (fun _ => True)) (by (with_reducible repeat (first | apply Kd.R_alloc | apply Kd.R_drewN | apply Kd.R_drew)); exact HL153_2.out) hg (.inl rfl)); have n3_ := Aside0.mk ((by rw [hw]; exact below_set (HB.out) GB15.out : Below w.heap.size w w20)); clear HO_9; clear HL153_1; clear HL153_2; clear HB; have HO_9 := n0_; have HL153_1 := n1_; have HL153_2 := n2_; have HB := n3_; clear n0_ n1_ n2_ n3_; clear hg hw hp_; have p155 : 0 ≤ (x10_3 : Int) := of_decide_eq_true (by first | (with_reducible assumption) | assumption); have q155 : x10_3 < (y154.length : Int) := (by have h_ : (x10_3 : Int) < ((x9_3.length : Int) : Int) := of_decide_eq_true (by first | (with_reducible assumption) | assumption); first | (have e_ := (Kd.S_reads' HO_9.out).1; omega) | simpa only [Ny154.out, List.length_set] using h_); have ql155 : ((x10_3 : Int) < ((x9_3.length : Int) : Int)) = True := eq_true (of_decide_eq_true (by first | (with_reducible assumption) | assumption)); obtain ⟨ad155, A155_1, c155_1, A155_2, c155_2, e155, hx155_0, hx155_1, hx155_2, hx155_3, hx155_4, hx155_5, hl155_1, hi155_1, hl155_2, hi155_2⟩ := at_T34 (Kd.S_reads' HO_9.out).2.2 x10_3 p155 q155; obtain rfl : (⟨go15, 0, none⟩ : Addr) = ad155 := (by injection e155); obtain ⟨ce155, hce155, hMe155, hcc155⟩ := Kd.S_get HO_9.out z34 x10_3 p155 (by first | exact q155 | exact of_decide_eq_true (by first | (with_reducible assumption) | assumption) | (have e_ := (Kd.S_reads' HO_9.out).1; omega)); obtain ⟨ve155_1, ve155_2, rfl, ge155_1, ge155_2⟩ := k34_openM hMe155; have hv155_1 := hcc155 1 _ rfl; rw [add_field _ _ 1 (by omega)] at hv155_1; replace hv155_1 := Option.some.inj (hv155_1.symm.trans hx155_1); rw [hv155_1] at ge155_1; have HL155_1 := Aside0.mk (show Kd.R (Kd.int .i64) 3 _ _ _ _ ((rd_T34 y154 x10_3).f1) from ge155_1); clear hv155_1 ge155_1; have hv155_2 := hcc155 2 _ rfl; rw [add_field _ _ 2 (by omega)] at hv155_2; replace hv155_2 := Option.some.inj (hv155_2.symm.trans hx155_2); rw [hv155_2] at ge155_2; have HL155_2 := Aside0.mk (show Kd.R (Kd.int .i64) 3 _ _ _ _ ((rd_T34 y154 x10_3).f2) from ge155_2); clear hv155_2 ge155_2; clear hcc155 hce155; (first | simp only [add_plain] at hx155_0 | simp only [add_at] at hx155_0 | simp only [Addr.add, Nat.zero_add] at hx155_0 | skip); (first | simp only [add_plain] at hx155_1 | simp only [add_at] at hx155_1 | simp only [Addr.add, Nat.zero_add] at hx155_1 | skip); (first | simp only [add_plain] at hx155_2 | simp only [add_at] at hx155_2 | simp only [Addr.add, Nat.zero_add] at hx155_2 | skip); (first | simp only [add_plain] at hx155_3 | simp only [add_at] at hx155_3 | simp only [Addr.add, Nat.zero_add] at hx155_3 | skip); (first | simp only [add_plain] at hx155_4 | simp only [add_at] at hx155_4 | simp only [Addr.add, Nat.zero_add] at hx155_4 | skip); (first | simp only [add_plain] at hx155_5 | simp only [add_at] at hx155_5 | simp only [Addr.add, Nat.zero_add] at hx155_5 | skip); have HR155_1 := Aside0.mk hi155_1; have HC155_1 := Aside0.mk hl155_1; clear hi155_1 hl155_1; have HR155_2 := Aside0.mk hi155_2; have HC155_2 := Aside0.mk hl155_2; clear hi155_2 hl155_2; replace p155 := eq_true p155; replace q155 := eq_true q155; have p17 : 0 ≤ (x10_3 : Int) := of_decide_eq_true (by first | (with_reducible assumption) | assumption); have q17 : (x10_3 : Int) < ((x9_3.length : Int) : Int) := of_decide_eq_true (by first | (with_reducible assumption) | assumption); obtain ⟨_, ce17, hcl17, hM17, hcc17, hfr17, _, _⟩ := Kd.S_elem HO_9.out z34 (x10_3 : Int) p17 q17; obtain ⟨ve17_1, ve17_2, rfl, ge17_1, ge17_2⟩ := k34_openM hM17; have hx17_0 : w20.cell? ⟨go15, (x10_3 : Int).toNat * 6, none⟩ = some (.int .i64 ((rd_T34 y154 x10_3).f0)) := hcc17 0 _ rfl; have hx17_1 : w20.cell? ⟨go15, (x10_3 : Int).toNat * 6 + 1, none⟩ = some (ve17_1) := hcc17 1 _ rfl; have hx17_2 : w20.cell? ⟨go15, (x10_3 : Int).toNat * 6 + 2, none⟩ = some (ve17_2) := hcc17 2 _ rfl; have hx17_3 : w20.cell? ⟨go15, (x10_3 : Int).toNat * 6 + 3, none⟩ = some (.int .i64 ((rd_T34 y154 x10_3).f3)) := hcc17 3 _ rfl; have hx17_4 : w20.cell? ⟨go15, (x10_3 : Int).toNat * 6 + 4, none⟩ = some (.int .i64 ((rd_T34 y154 x10_3).f4)) := hcc17 4 _ rfl; have hx17_5 : w20.cell? ⟨go15, (x10_3 : Int).toNat * 6 + 5, none⟩ = some (.int .i64 ((rd_T34 y154 x10_3).f5)) := hcc17 5 _ rfl; have hf17_0 : w20.frozen? ⟨go15, (x10_3 : Int).toNat * 6, none⟩ = false := hfr17 0; have hf17_1 : w20.frozen? ⟨go15, (x10_3 : Int).toNat * 6 + 1, none⟩ = false := hfr17 1; have hf17_2 : w20.frozen? ⟨go15, (x10_3 : Int).toNat * 6 + 2, none⟩ = false := hfr17 2; have hf17_3 : w20.frozen? ⟨go15, (x10_3 : Int).toNat * 6 + 3, none⟩ = false := hfr17 3; have hf17_4 : w20.frozen? ⟨go15, (x10_3 : Int).toNat * 6 + 4, none⟩ = false := hfr17 4; have hf17_5 : w20.frozen? ⟨go15, (x10_3 : Int).toNat * 6 + 5, none⟩ = false := hfr17 5; clear hcl17 hcc17 hfr17 hM17; replace p17 := eq_true p17; replace q17 := eq_true q17; have HX21 := Aside0.mk (show Kd.S k34 34 w20 w.heap.size (fun k_ => ((fun _ => True)) k_ ∧ ¬ ((fun _ => False)) k_) (.slice (some ⟨go15, 0, none⟩) x9_3.length co18) y154 from (by (with_reducible repeat (first | apply Kd.S_alloc | apply Kd.S_drewN | apply Kd.S_drew)); exact Kd.S_mono HO_9.out (fun k_ hk => ⟨trivial, fun e_ => e_⟩))); obtain ⟨oki21, ce21, hcl21, hM21, hcc21, hfr21, hoki21, hH21⟩ := Kd.S_elem HX21.out z34 (x10_3 : Int) (of_decide_eq_true (by first | (with_reducible assumption) | assumption)) (by have h_ : (x10_3 : Int) < ((x9_3.length : Int) : Int) := of_decide_eq_true (by first | (with_reducible assumption) | assumption); first | exact h_ | (have e_ := (Kd.S_reads' HO_9.out).1; omega) | simpa using h_); obtain ⟨ve21_1, ve21_2, rfl, ge21_1, ge21_2⟩ := k34_openM hM21; have HP21 := Kd.S_seg hH21 (of_decide_eq_true (by first | (with_reducible assumption) | assumption)) (by have h_ : (x10_3 : Int) < ((x9_3.length : Int) : Int) := of_decide_eq_true (by first | (with_reducible assumption) | assumption); first | exact h_ | (have e_ := (Kd.S_reads' HO_9.out).1; omega) | simpa using h_) (seg := [.int .i64 100000]) (j := 4) (show 5 ≤ 6 from by decide) (x' := (⟨(rd_T34 y154 x10_3).f0, (rd_T34 y154 x10_3).f1, (rd_T34 y154 x10_3).f2, (rd_T34 y154 x10_3).f3, 100000, (rd_T34 y154 x10_3).f5⟩ : S34)) (k34_mkM _ _ _ (⟨(rd_T34 y154 x10_3).f0, (rd_T34 y154 x10_3).f1, (rd_T34 y154 x10_3).f2, (rd_T34 y154 x10_3).f3, 100000, (rd_T34 y154 x10_3).f5⟩ : S34) (Kd.R_mono ge21_1 (fun _ h_ => Or.inl h_)) (Kd.R_mono ge21_2 (fun _ h_ => Or.inl h_))) (fun _ hk => hk) (fun k_ hk_ => hk_.elim); have hx21_4 := hcc21 4 _ rfl; (try simp only [show (k34).sz = 6 from rfl, Nat.mul_one, Nat.add_zero] at hx21_4); have hf21_4 := hfr21 4; (try simp only [show (k34).sz = 6 from rfl, Nat.mul_one, Nat.add_zero] at hf21_4); clear hcl21 hcc21 hfr21 hM21 hoki21 hH21) | ((with_reducible refine gate_store (t := 3) (p := 61) rfl ?_); refine store_event (t := 3) (p := 61) (v := ?vo_w22) (w1 := (w20.setCell ⟨go15, (x10_3 : Int).toNat * 6 + 4, none⟩ (.int .i64 100000))) ?hg ?ho ?hn ?hr ?_; (case ho => rfl); (case hg => rfl); (case hn => rfl); (case hr => first | (go_simp; done) | (go_simp; rfl)); intro w22 hw; have hg : w20.grownBy w22 (some go15) := (by rw [hw]; exact HP21.2); have hp_ : Kd.S k34 34 w22 w.heap.size (fun _ => True) (.slice (some ⟨go15, 0, none⟩) x9_3.length co18) y156 := (by rw [hw, Ny156.out]; exact HP21.1); clear HP21; have n0_ := Aside0.mk (hp_); have n1_ := Aside0.mk (Kd.R_after (v := (.slice (some ⟨go15, 0, none⟩) x9_3.length co18)) (v1 := (.slice (some ⟨go15, 0, none⟩) x9_3.length co18)) (ok := (fun _ => True)) (by (with_reducible repeat (first | apply Kd.R_alloc | apply Kd.R_drewN | apply Kd.R_drew)); exact HL153_1.out) hg (.inl rfl)); have n2_ := Aside0.mk (Kd.R_after (v := (.slice (some ⟨go15, 0, none⟩) x9_3.length co18)) (v1 := (.slice (some ⟨go15, 0, none⟩) x9_3.length co18)) (ok := (fun _ => True)) (by (with_reducible repeat (first | apply Kd.R_alloc | apply Kd.R_drewN | apply Kd.R_drew)); exact HL153_2.out) hg (.inl rfl)); have n3_ := Aside0.mk (Kd.R_after (v := (.slice (some ⟨go15, 0, none⟩) x9_3.length co18)) (v1 := (.slice (some ⟨go15, 0, none⟩) x9_3.length co18)) (ok := (fun _ => True)) (by (with_reducible repeat (first | apply Kd.R_alloc | apply Kd.R_drewN | apply Kd.R_drew)); exact HL155_1.out) hg (.inl rfl)); have n4_ := Aside0.mk (Kd.R_after (v := (.slice (some ⟨go15, 0, none⟩) x9_3.length co18)) (v1 := (.slice (some ⟨go15, 0, none⟩) x9_3.length co18)) (ok := (fun _ => True)) (by (with_reducible repeat (first | apply Kd.R_alloc | apply Kd.R_drewN | apply Kd.R_drew)); exact HL155_2.out) hg (.inl rfl)); have n5_ := Aside0.mk ((by rw [hw]; exact below_set (HB.out) GB15.out : Below w.heap.size w w22)); clear HO_9; clear HL153_1; clear HL153_2; clear HL155_1; clear HL155_2; clear HB; have HO_9 := n0_; have HL153_1 := n1_; have HL153_2 := n2_; have HL155_1 := n3_; have HL155_2 := n4_; have HB := n5_; clear n0_ n1_ n2_ n3_ n4_ n5_; clear hg hw hp_))
                      go_roundg k3
                      case measure => have := HJ3.out; have := HJ8.out; have := HK3.out; omega
                      case rel => exact ⟨(y156), (wrap64 (x10_3 + 1)), (by first | rfl | (simp; done) | (simp [*]; done)), H', ⟨by have := HJ3.out; have := HJ8.out; have := HK3.out; omega⟩, ⟨by (with_reducible repeat (first | apply Kd.S_alloc | apply Kd.S_drewN | apply Kd.S_drew)); exact HO_9.out⟩, ⟨by repeat (first | (with_reducible first | exact HB.out | apply below_alloc | apply pw_below_drewN | apply below_drew1) | exact HB.out)⟩⟩
                    · rw [if_neg c16] at H
                      have c16b0 : decide (100000 < ((rd_T34 y154 x10_3).f4)) = false := decide_eq_false c16
                      clear c16
                      have H' := Aside0.mk H
                      clear H
                      obtain ⟨Ao23, co23, eo23⟩ := Kd.S_slice HO_9.out
                      subst eo23
                      have p153 : 0 ≤ (x10_3 : Int) := of_decide_eq_true (by first | (with_reducible assumption) | assumption)
                      have q153 : x10_3 < (x9_3.length : Int) := of_decide_eq_true (by first | (with_reducible assumption) | assumption)
                      obtain ⟨ad153, A153_1, c153_1, A153_2, c153_2, e153, hx153_0, hx153_1, hx153_2, hx153_3, hx153_4, hx153_5, hl153_1, hi153_1, hl153_2, hi153_2⟩ := at_T34 (Kd.S_reads' HO_9.out).2.2 x10_3 p153 q153
                      cases e153
                      obtain ⟨ce153, hce153, hMe153, hcc153⟩ := Kd.S_get HO_9.out z34 x10_3 p153 (by first | exact q153 | exact of_decide_eq_true (by first | (with_reducible assumption) | assumption) | (have e_ := (Kd.S_reads' HO_9.out).1; omega))
                      obtain ⟨ve153_1, ve153_2, rfl, ge153_1, ge153_2⟩ := k34_openM hMe153
                      have hv153_1 := hcc153 1 _ rfl
                      rw [add_field _ _ 1 (by omega)] at hv153_1
                      replace hv153_1 := Option.some.inj (hv153_1.symm.trans hx153_1)
                      rw [hv153_1] at ge153_1
                      have HL153_1 := Aside0.mk (show Kd.R (Kd.int .i64) 3 _ _ _ _ ((rd_T34 x9_3 x10_3).f1) from ge153_1)
                      clear hv153_1 ge153_1
                      have hv153_2 := hcc153 2 _ rfl
                      rw [add_field _ _ 2 (by omega)] at hv153_2
                      replace hv153_2 := Option.some.inj (hv153_2.symm.trans hx153_2)
                      rw [hv153_2] at ge153_2
                      have HL153_2 := Aside0.mk (show Kd.R (Kd.int .i64) 3 _ _ _ _ ((rd_T34 x9_3 x10_3).f2) from ge153_2)
                      clear hv153_2 ge153_2
                      clear hcc153 hce153
                      have HR153_1 := Aside0.mk hi153_1
                      have HC153_1 := Aside0.mk hl153_1
                      clear hi153_1 hl153_1
                      have HR153_2 := Aside0.mk hi153_2
                      have HC153_2 := Aside0.mk hl153_2
                      clear hi153_2 hl153_2
                      replace p153 := eq_true p153
                      replace q153 := eq_true q153
                      have p15 : 0 ≤ (x10_3 : Int) := of_decide_eq_true (by first | (with_reducible assumption) | assumption)
                      have q15 : (x10_3 : Int) < ((x9_3.length : Int) : Int) := of_decide_eq_true (by first | (with_reducible assumption) | assumption)
                      obtain ⟨go15, co15, eo15, gb15, gl15, cl15, HG15⟩ := Kd.S_form HO_9.out (by omega)
                      (first | cases eo15 | (injection eo15 with ea_ en_ ec_; (first | subst ea_ | (injection ea_ with ea_; subst ea_)); subst ec_; clear en_))
                      have GB15 := Aside0.mk gb15
                      have GG15 := Aside0.mk HG15
                      clear gb15 gl15 HG15
                      (first | simp only [add_plain] at hx153_0 | skip)
                      (first | simp only [add_plain] at hx153_1 | skip)
                      (first | simp only [add_plain] at hx153_2 | skip)
                      (first | simp only [add_plain] at hx153_3 | skip)
                      (first | simp only [add_plain] at hx153_4 | skip)
                      (first | simp only [add_plain] at hx153_5 | skip)
                      obtain ⟨_, ce15, hcl15, hM15, hcc15, hfr15, _, _⟩ := Kd.S_elem HO_9.out z34 (x10_3 : Int) p15 q15
                      obtain ⟨ve15_1, ve15_2, rfl, ge15_1, ge15_2⟩ := k34_openM hM15
                      have hx15_0 : wr.cell? ⟨go15, (x10_3 : Int).toNat * 6, none⟩ = some (.int .i64 ((rd_T34 x9_3 x10_3).f0)) := hcc15 0 _ rfl
                      have hx15_1 : wr.cell? ⟨go15, (x10_3 : Int).toNat * 6 + 1, none⟩ = some (ve15_1) := hcc15 1 _ rfl
                      have hx15_2 : wr.cell? ⟨go15, (x10_3 : Int).toNat * 6 + 2, none⟩ = some (ve15_2) := hcc15 2 _ rfl
                      have hx15_3 : wr.cell? ⟨go15, (x10_3 : Int).toNat * 6 + 3, none⟩ = some (.int .i64 ((rd_T34 x9_3 x10_3).f3)) := hcc15 3 _ rfl
                      have hx15_4 : wr.cell? ⟨go15, (x10_3 : Int).toNat * 6 + 4, none⟩ = some (.int .i64 ((rd_T34 x9_3 x10_3).f4)) := hcc15 4 _ rfl
                      have hx15_5 : wr.cell? ⟨go15, (x10_3 : Int).toNat * 6 + 5, none⟩ = some (.int .i64 ((rd_T34 x9_3 x10_3).f5)) := hcc15 5 _ rfl
                      have hf15_0 : wr.frozen? ⟨go15, (x10_3 : Int).toNat * 6, none⟩ = false := hfr15 0
                      have hf15_1 : wr.frozen? ⟨go15, (x10_3 : Int).toNat * 6 + 1, none⟩ = false := hfr15 1
                      have hf15_2 : wr.frozen? ⟨go15, (x10_3 : Int).toNat * 6 + 2, none⟩ = false := hfr15 2
                      have hf15_3 : wr.frozen? ⟨go15, (x10_3 : Int).toNat * 6 + 3, none⟩ = false := hfr15 3
                      have hf15_4 : wr.frozen? ⟨go15, (x10_3 : Int).toNat * 6 + 4, none⟩ = false := hfr15 4
                      have hf15_5 : wr.frozen? ⟨go15, (x10_3 : Int).toNat * 6 + 5, none⟩ = false := hfr15 5
                      clear hcl15 hcc15 hfr15 hM15
                      replace p15 := eq_true p15
                      replace q15 := eq_true q15
                      have HX24 := Aside0.mk (show Kd.S k34 34 wr w.heap.size (fun k_ => ((fun _ => True)) k_ ∧ ¬ ((fun _ => False)) k_) (.slice (some ⟨go15, 0, none⟩) x9_3.length co23) x9_3 from (by (with_reducible repeat (first | apply Kd.S_alloc | apply Kd.S_drewN | apply Kd.S_drew)); exact Kd.S_mono HO_9.out (fun k_ hk => ⟨trivial, fun e_ => e_⟩)))
                      obtain ⟨oki24, ce24, hcl24, hM24, hcc24, hfr24, hoki24, hH24⟩ := Kd.S_elem HX24.out z34 (x10_3 : Int) (of_decide_eq_true (by first | (with_reducible assumption) | assumption)) (by have h_ : (x10_3 : Int) < ((x9_3.length : Int) : Int) := of_decide_eq_true (by first | (with_reducible assumption) | assumption); first | exact h_ | (have e_ := (Kd.S_reads' HO_9.out).1; omega) | simpa using h_)
                      obtain ⟨ve24_1, ve24_2, rfl, ge24_1, ge24_2⟩ := k34_openM hM24
                      have HP24 := Kd.S_seg hH24 (of_decide_eq_true (by first | (with_reducible assumption) | assumption)) (by have h_ : (x10_3 : Int) < ((x9_3.length : Int) : Int) := of_decide_eq_true (by first | (with_reducible assumption) | assumption); first | exact h_ | (have e_ := (Kd.S_reads' HO_9.out).1; omega) | simpa using h_) (seg := [.int .i64 (wrap64 (((rd_T34 x9_3 x10_3).f4) + x8_8))]) (j := 4) (show 5 ≤ 6 from by decide) (x' := (⟨(rd_T34 x9_3 x10_3).f0, (rd_T34 x9_3 x10_3).f1, (rd_T34 x9_3 x10_3).f2, (rd_T34 x9_3 x10_3).f3, wrap64 (((rd_T34 x9_3 x10_3).f4) + x8_8), (rd_T34 x9_3 x10_3).f5⟩ : S34)) (k34_mkM _ _ _ (⟨(rd_T34 x9_3 x10_3).f0, (rd_T34 x9_3 x10_3).f1, (rd_T34 x9_3 x10_3).f2, (rd_T34 x9_3 x10_3).f3, wrap64 (((rd_T34 x9_3 x10_3).f4) + x8_8), (rd_T34 x9_3 x10_3).f5⟩ : S34) (Kd.R_mono ge24_1 (fun _ h_ => Or.inl h_)) (Kd.R_mono ge24_2 (fun _ h_ => Or.inl h_))) (fun _ hk => hk) (fun k_ hk_ => hk_.elim)
                      have hx24_4 := hcc24 4 _ rfl
                      (try simp only [show (k34).sz = 6 from rfl, Nat.mul_one, Nat.add_zero] at hx24_4)
                      have hf24_4 := hfr24 4
                      (try simp only [show (k34).sz = 6 from rfl, Nat.mul_one, Nat.add_zero] at hf24_4)
                      clear hcl24 hcc24 hfr24 hM24 hoki24 hH24
                      go_wp2_with (first | ((with_reducible refine gate_store (t := 3) (p := 51) rfl ?_); refine store_event (t := 3) (p := 51) (v := ?vo_w25) (w1 := (wr.setCell ⟨go15, (x10_3 : Int).toNat * 6 + 4, none⟩ (.int .i64 (wrap64 (((rd_T34 x9_3 x10_3).f4) + x8_8))))) ?hg ?ho ?hn ?hr ?_; (case ho => rfl); (case hg => rfl); (case hn => rfl); (case hr => first | (go_simp; done) | (go_simp; rfl)); intro w25 hw; have hg : wr.grownBy w25 (some go15) := (by rw [hw]; exact HP24.2); have hp_ : Kd.S k34 34 w25 w.heap.size (fun _ => True) (.slice (some ⟨go15, 0, none⟩) x9_3.length co23) y154 := (by rw [hw, Ny154.out]; exact HP24.1); clear HP24; have n0_ := Aside0.mk (hp_); have n1_ := Aside0.mk (Kd.R_after (v := (.slice (some ⟨go15, 0, none⟩) x9_3.length co23)) (v1 := (.slice (some ⟨go15, 0, none⟩) x9_3.length co23)) (ok := (fun _ => True)) (by (with_reducible repeat (first | apply Kd.R_alloc | apply Kd.R_drewN | apply Kd.R_drew)); exact HL153_1.out) hg (.inl rfl)); have n2_ := Aside0.mk (Kd.R_after (v := (.slice (some ⟨go15, 0, none⟩) x9_3.length co23)) (v1 := (.slice (some ⟨go15, 0, none⟩) x9_3.length co23)) (ok := (fun _ => True)) (by (with_reducible repeat (first | apply Kd.R_alloc | apply Kd.R_drewN | apply Kd.R_drew)); exact HL153_2.out) hg (.inl rfl)); have n3_ := Aside0.mk ((by rw [hw]; exact below_set (HB.out) GB15.out : Below w.heap.size w w25)); clear HO_9; clear HL153_1; clear HL153_2; clear HB; have HO_9 := n0_; have HL153_1 := n1_; have HL153_2 := n2_; have HB := n3_; clear n0_ n1_ n2_ n3_; clear hg hw hp_; have p155 : 0 ≤ (x10_3 : Int) := of_decide_eq_true (by first | (with_reducible assumption) | assumption); have q155 : x10_3 < (y154.length : Int) := (by have h_ : (x10_3 : Int) < ((x9_3.length : Int) : Int) := of_decide_eq_true (by first | (with_reducible assumption) | assumption); first | (have e_ := (Kd.S_reads' HO_9.out).1; omega) | simpa only [Ny154.out, List.length_set] using h_); have ql155 : ((x10_3 : Int) < ((x9_3.length : Int) : Int)) = True := eq_true (of_decide_eq_true (by first | (with_reducible assumption) | assumption)); obtain ⟨ad155, A155_1, c155_1, A155_2, c155_2, e155, hx155_0, hx155_1, hx155_2, hx155_3, hx155_4, hx155_5, hl155_1, hi155_1, hl155_2, hi155_2⟩ := at_T34 (Kd.S_reads' HO_9.out).2.2 x10_3 p155 q155; obtain rfl : (⟨go15, 0, none⟩ : Addr) = ad155 := (by injection e155); obtain ⟨ce155, hce155, hMe155, hcc155⟩ := Kd.S_get HO_9.out z34 x10_3 p155 (by first | exact q155 | exact of_decide_eq_true (by first | (with_reducible assumption) | assumption) | (have e_ := (Kd.S_reads' HO_9.out).1; omega)); obtain ⟨ve155_1, ve155_2, rfl, ge155_1, ge155_2⟩ := k34_openM hMe155; have hv155_1 := hcc155 1 _ rfl; rw [add_field _ _ 1 (by omega)] at hv155_1; replace hv155_1 := Option.some.inj (hv155_1.symm.trans hx155_1); rw [hv155_1] at ge155_1; have HL155_1 := Aside0.mk (show Kd.R (Kd.int .i64) 3 _ _ _ _ ((rd_T34 y154 x10_3).f1) from ge155_1); clear hv155_1 ge155_1; have hv155_2 := hcc155 2 _ rfl; rw [add_field _ _ 2 (by omega)] at hv155_2; replace hv155_2 := Option.some.inj (hv155_2.symm.trans hx155_2); rw [hv155_2] at ge155_2; have HL155_2 := Aside0.mk (show Kd.R (Kd.int .i64) 3 _ _ _ _ ((rd_T34 y154 x10_3).f2) from ge155_2); clear hv155_2 ge155_2; clear hcc155 hce155; (first | simp only [add_plain] at hx155_0 | simp only [add_at] at hx155_0 | simp only [Addr.add, Nat.zero_add] at hx155_0 | skip); (first | simp only [add_plain] at hx155_1 | simp only [add_at] at hx155_1 | simp only [Addr.add, Nat.zero_add] at hx155_1 | skip); (first | simp only [add_plain] at hx155_2 | simp only [add_at] at hx155_2 | simp only [Addr.add, Nat.zero_add] at hx155_2 | skip); (first | simp only [add_plain] at hx155_3 | simp only [add_at] at hx155_3 | simp only [Addr.add, Nat.zero_add] at hx155_3 | skip); (first | simp only [add_plain] at hx155_4 | simp only [add_at] at hx155_4 | simp only [Addr.add, Nat.zero_add] at hx155_4 | skip); (first | simp only [add_plain] at hx155_5 | simp only [add_at] at hx155_5 | simp only [Addr.add, Nat.zero_add] at hx155_5 | skip); have HR155_1 := Aside0.mk hi155_1; have HC155_1 := Aside0.mk hl155_1; clear hi155_1 hl155_1; have HR155_2 := Aside0.mk hi155_2; have HC155_2 := Aside0.mk hl155_2; clear hi155_2 hl155_2; replace p155 := eq_true p155; replace q155 := eq_true q155))
                      go_roundg k3
                      case measure => have := HJ3.out; have := HJ8.out; have := HK3.out; omega
                      case rel => exact ⟨(y154), (wrap64 (x10_3 + 1)), (by first | rfl | (simp; done) | (simp [*]; done)), H', ⟨by have := HJ3.out; have := HJ8.out; have := HK3.out; omega⟩, ⟨by (with_reducible repeat (first | apply Kd.S_alloc | apply Kd.S_drewN | apply Kd.S_drew)); exact HO_9.out⟩, ⟨by repeat (first | (with_reducible first | exact HB.out | apply below_alloc | apply pw_below_drewN | apply below_drew1) | exact HB.out)⟩⟩
                  · rw [if_neg c14] at H
                    exact absurd H (by simp)
                · rw [if_neg c13] at H
                  have c13b0 : decide (x10_3 < (x9_3.length : Int)) = false := decide_eq_false c13
                  clear c13
                  simp only [Option.some.injEq, Prod.mk.injEq] at H
                  obtain ⟨rfl, rfl⟩ := H
                  obtain ⟨Ao26, co26, eo26⟩ := Kd.S_slice HO_9.out
                  subst eo26
                  go_wp2
                  go_ret2
                  exact ⟨_, by first | rfl | (simp [errW_none, errW_some] <;> rfl) | (simp [*, errW_none, errW_some] <;> rfl), by (with_reducible repeat (first | apply Kd.S_alloc | apply Kd.S_drewN | apply Kd.S_drew)); exact HO_9.out, by repeat (first | (with_reducible first | exact HB.out | apply below_alloc | apply pw_below_drewN | apply below_drew1) | exact HB.out)⟩

end Go.Proofs.Ytfjnpdgjigkbcaa.PAll
