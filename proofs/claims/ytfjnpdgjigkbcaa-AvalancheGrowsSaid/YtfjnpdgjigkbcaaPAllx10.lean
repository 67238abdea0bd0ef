/- What each of these functions computes, and its contract over the machine: printed by a program out of the translation. No condition but those that each theorem states. -/
import Derived.Test.YtfjnpdgjigkbcaaPAllx0
import Derived.Test.YtfjnpdgjigkbcaaPAllx4
import Derived.Test.YtfjnpdgjigkbcaaGCopied
namespace Go.Proofs.Ytfjnpdgjigkbcaa.PAll
open Go.RowKit Go.Proofs.YtfjnpdgjigkbcaaW.PrintWords Go.Proofs.YtfjnpdgjigkbcaaW.PrintLast Go.Proofs.YtfjnpdgjigkbcaaW.PrintMore
attribute [local go_sem] max2_int min2_int max_two min_two max_three min_three max_four min_four   -- for this text's walks alone
set_option linter.unusedVariables false
set_option linter.unusedSimpArgs false

/-! ### avalanche_Grow: function 15 -/
mutual
def avalanche_Grow.j0 : Nat → List (S34) → Int → Int → Bool → Option ((List (S34)) × Int)
  | 0, _, _, _, _ => none
  | k + 1, x0, x1, x2, x17 => if x17 = true then (some (([] : List (S34)), 2)) else ((avalanche_copied.f x0).bind fun t145 => (avalanche_Grow.l0 k x1 x2 t145 (t145.length : Int) 0))
def avalanche_Grow.l0 : Nat → Int → Int → List (S34) → Int → Int → Option ((List (S34)) × Int)
  | 0, _, _, _, _, _ => none
  | k + 1, x1, x2, x8, x21, x22 => if x22 < x21 then (if 0 ≤ x22 then (if x22 < (x8.length : Int) then (avalanche_Grow.l0 k x1 x2 (x8.set (x22 : Int).toNat (⟨(rd_T34 x8 x22).f0, (rd_T34 x8 x22).f1, (rd_T34 x8 x22).f2, (rd_T34 x8 x22).f3, mn (wrap64 ((wrap64 (((rd_T34 x8 x22).f4) + x1)) + (wrap64 ((mx 0 (wrap64 (x2 - 10000))) / 1000)))) 100000, (rd_T34 x8 x22).f5⟩ : S34)) x21 (wrap64 (x22 + 1))) else (none)) else (none)) else (some (x8, 0))
end
def avalanche_Grow.f (k : Nat) (l0 : List (S34)) (a1 : Int) (a2 : Int) : Option ((List (S34)) × Int) := (avalanche_within.f a1 0 2000).bind fun t143 => (if t143 = true then ((avalanche_within.f a2 0 100000).bind fun t144 => (avalanche_Grow.j0 k l0 a1 a2 (!t144))) else (avalanche_Grow.j0 k l0 a1 a2 true))
theorem avalanche_Grow.mono_l : ∀ k, (∀ y0 y1 y2 y3, LeO (avalanche_Grow.j0 k y0 y1 y2 y3) (avalanche_Grow.j0 (k + 1) y0 y1 y2 y3)) ∧ (∀ y0 y1 y2 y3 y4, LeO (avalanche_Grow.l0 k y0 y1 y2 y3 y4) (avalanche_Grow.l0 (k + 1) y0 y1 y2 y3 y4))
  | 0 => ⟨fun _ _ _ _ r h => by simp [avalanche_Grow.j0] at h, fun _ _ _ _ _ r h => by simp [avalanche_Grow.l0] at h⟩
  | k + 1 => by
    obtain ⟨ih0, ih1⟩ := avalanche_Grow.mono_l k
    refine ⟨?_, ?_⟩
    · intro y0 y1 y2 y3
      unfold avalanche_Grow.j0
      repeat' first
      | (with_reducible exact ih0 _ _ _ _)
      | (with_reducible exact ih1 _ _ _ _ _)
      | (with_reducible exact LeO.refl _)
      | (with_reducible exact LeO.none _)
      | (with_reducible refine LeO.ite ?_ ?_)
      | (with_reducible refine LeO.bind ?_ (fun _ => ?_))
      | exact ih0 _ _ _ _
      | exact ih1 _ _ _ _ _
      | exact LeO.none _
      | refine LeO.ite ?_ ?_
      | refine LeO.bind ?_ (fun _ => ?_)
    · intro y0 y1 y2 y3 y4
      unfold avalanche_Grow.l0
      repeat' first
      | (with_reducible exact ih0 _ _ _ _)
      | (with_reducible exact ih1 _ _ _ _ _)
      | (with_reducible exact LeO.refl _)
      | (with_reducible exact LeO.none _)
      | (with_reducible refine LeO.ite ?_ ?_)
      | (with_reducible refine LeO.bind ?_ (fun _ => ?_))
      | exact ih0 _ _ _ _
      | exact ih1 _ _ _ _ _
      | exact LeO.none _
      | refine LeO.ite ?_ ?_
      | refine LeO.bind ?_ (fun _ => ?_)
theorem avalanche_Grow.mono : ∀ a0 a1 a2 k, LeO (avalanche_Grow.f k a0 a1 a2) (avalanche_Grow.f (k + 1) a0 a1 a2) := by
  intro a0 a1 a2 k
  obtain ⟨ih0, ih1⟩ := avalanche_Grow.mono_l k
  unfold avalanche_Grow.f
  repeat' first
      | (with_reducible exact ih0 _ _ _ _)
      | (with_reducible exact ih1 _ _ _ _ _)
      | (with_reducible exact LeO.refl _)
      | (with_reducible exact LeO.none _)
      | (with_reducible refine LeO.ite ?_ ?_)
      | (with_reducible refine LeO.bind ?_ (fun _ => ?_))
      | exact ih0 _ _ _ _
      | exact ih1 _ _ _ _ _
      | exact LeO.none _
      | refine LeO.ite ?_ ?_
      | refine LeO.bind ?_ (fun _ => ?_)
set_option maxHeartbeats 8000000 in
set_option maxRecDepth 100000 in
theorem avalanche_Grow.calls (k : Nat) (A0 : Option Addr) (c0 : Nat) (l0 : List (S34)) (a1 : Int) (a2 : Int) (r1 : List (S34)) (r2 : Int) (w : World) (hr0 : Kd.C k34 w A0 l0.length l0) (hc0 : l0.length ≤ c0) (h : avalanche_Grow.f k l0 a1 a2 = some (r1, r2)) :
    Calls Try.prog 15 #[.slice A0 l0.length c0, .int .i64 a1, .int .i64 a2] w fun e w' => ∃ v0_ : Value, e = .returned (.tuple #[v0_, .int .i64 r2]) ∧ Kd.S k34 34 w' w.heap.size (fun _ => True) v0_ r1 ∧ Below w.heap.size w w' := by
  have HR0 := Aside0.mk hr0
  have HC0 := Aside0.mk hc0
  clear hr0 hc0
  have HB := Aside0.mk (Below.refl w.heap.size w)
  have H : ((avalanche_within.f a1 0 2000).bind fun t143 => (if t143 = true then ((avalanche_within.f a2 0 100000).bind fun t144 => (avalanche_Grow.j0 k l0 a1 a2 (!t144))) else (avalanche_Grow.j0 k l0 a1 a2 true))) = some (r1, r2) := h
  clear h
  have HC4 := Aside0.mk H
  clear H
  go_enter Try.func15, Try.ntmps15
  go_upto_region 1 with (fail)
  go_cut [17] (fun v17 wc => ∃ (kq : Nat) (x17_3 : Bool), v17 = .bool x17_3 ∧ Aside0 (avalanche_Grow.j0 kq l0 a1 a2 x17_3 = some (r1, r2)) ∧ Aside0 (kq ≤ k) ∧ Aside0 (Below w.heap.size w wc))
  case first =>
    have H := HC4.out
    clear HC4
    replace H := Option.bind_eq_some_iff.mp H
    obtain ⟨t143, A50, H⟩ := H
    replace H : (if t143 = true then ((avalanche_within.f a2 0 100000).bind fun t144 => (avalanche_Grow.j0 k l0 a1 a2 (!t144))) else (avalanche_Grow.j0 k l0 a1 a2 true)) = some (r1, r2) := H
    have A5 := Aside0.mk A50
    clear A50
    by_cases c6 : t143 = true
    · subst c6
      have H1 : ((avalanche_within.f a2 0 100000).bind fun t144 => (avalanche_Grow.j0 k l0 a1 a2 (!t144))) = some (r1, r2) := by rw [if_pos rfl] at H; exact H
      clear H
      have H := H1
      clear H1
      replace H := Option.bind_eq_some_iff.mp H
      obtain ⟨t144, A70, H⟩ := H
      replace H : (avalanche_Grow.j0 k l0 a1 a2 (!t144)) = some (r1, r2) := H
      have A7 := Aside0.mk A70
      clear A70
      have H' := Aside0.mk H
      clear H
      go_wp2_with (first | ((with_reducible refine gate_callee (f := 33) rfl ?_); refine goesL_ (some 11) rfl rfl Try.func33 (by kernel_rfl) rfl #[.int .i64 a1, .int .i64 0, .int .i64 2000] rfl (by (try simp only [List.map_toArray, List.map_cons, List.map_nil]); first | done | rfl | (simp only [List.length_drop, List.length_take]; rfl)) ?_; (with_reducible refine (avalanche_within.calls a1 0 2000 true _ A5.out).mono ?_); rintro e w' ⟨rfl, ⟨nd, rfl⟩⟩; refine ⟨_, rfl, ?_⟩) | (go_at_call 33; (with_reducible refine (avalanche_within.calls a2 0 100000 t144 _ A7.out).mono ?_); rintro e w' ⟨rfl, ⟨nd, rfl⟩⟩))
      go_meet
      case rel => exact ⟨_, (!t144), (by first | rfl | (simp; done) | (simp [*]; done)), H', ⟨by first | omega | exact Nat.le_refl _⟩, ⟨by repeat (first | (with_reducible first | exact HB.out | apply below_alloc | apply pw_below_drewN | apply below_drew1) | exact HB.out)⟩⟩
    · replace c6 := Bool.eq_false_iff.mpr c6
      subst c6
      have H1 : (avalanche_Grow.j0 k l0 a1 a2 true) = some (r1, r2) := by rw [if_neg (show ¬ (false = true) by decide)] at H; exact H
      clear H
      have H := H1
      clear H1
      have H' := Aside0.mk H
      clear H
      go_wp2_with (first | ((with_reducible refine gate_callee (f := 33) rfl ?_); refine goesL_ (some 11) rfl rfl Try.func33 (by kernel_rfl) rfl #[.int .i64 a1, .int .i64 0, .int .i64 2000] rfl (by (try simp only [List.map_toArray, List.map_cons, List.map_nil]); first | done | rfl | (simp only [List.length_drop, List.length_take]; rfl)) ?_; (with_reducible refine (avalanche_within.calls a1 0 2000 false _ A5.out).mono ?_); rintro e w' ⟨rfl, ⟨nd, rfl⟩⟩; refine ⟨_, rfl, ?_⟩))
      go_meet
      case rel => exact ⟨_, (true), (by first | rfl | (simp; done) | (simp [*]; done)), H', ⟨by first | omega | exact Nat.le_refl _⟩, ⟨by repeat (first | (with_reducible first | exact HB.out | apply below_alloc | apply pw_below_drewN | apply below_drew1) | exact HB.out)⟩⟩
  case rest =>
    clear HC4
    try clear c1
    try clear p2
    try clear c3
    try clear c6
    obtain ⟨kq, x17_3, rfl, HA, HJ3, HB⟩ := hcut
    cases kq with
    | zero => exact absurd HA.out (by simp [avalanche_Grow.j0])
    | succ kj3 =>
      have H := HA.out
      clear HA
      simp only [avalanche_Grow.j0] at H
      by_cases c8 : x17_3 = true
      · subst c8
        have H1 : (some (([] : List (S34)), 2)) = some (r1, r2) := by rw [if_pos rfl] at H; exact H
        clear H
        have H := H1
        clear H1
        simp only [Option.some.injEq, Prod.mk.injEq] at H
        obtain ⟨rfl, rfl⟩ := H
        go_wp2
        go_ret2
        exact ⟨_, by first | rfl | (simp [errW_none, errW_some] <;> rfl) | (simp [*, errW_none, errW_some] <;> rfl), by first | exact Kd.S_nil _ _ _ _ _ | exact Kd.N_nil _ _ _ _ _ | exact Kd.V_nil _ _ _ _ _ | exact Kd.Q_nil _ _ _ _ _ | exact Kd.R_nil _ _ _ _ _, by repeat (first | (with_reducible first | exact HB.out | apply below_alloc | apply pw_below_drewN | apply below_drew1) | exact HB.out)⟩
      · replace c8 := Bool.eq_false_iff.mpr c8
        subst c8
        have H1 : ((avalanche_copied.f l0).bind fun t145 => (avalanche_Grow.l0 kj3 a1 a2 t145 (t145.length : Int) 0)) = some (r1, r2) := by rw [if_neg (show ¬ (false = true) by decide)] at H; exact H
        clear H
        have H := H1
        clear H1
        replace H := Option.bind_eq_some_iff.mp H
        obtain ⟨t145, A90, H⟩ := H
        replace H : (avalanche_Grow.l0 kj3 a1 a2 t145 (t145.length : Int) 0) = some (r1, r2) := H
        have A9 := Aside0.mk A90
        clear A90
        have H' := Aside0.mk H
        clear H
        go_wp2_with (first | ((with_reducible refine gate_callee (f := 37) rfl ?_); refine goesL_ (some 19) rfl rfl Try.func37 (by kernel_rfl) rfl #[.slice A0 l0.length c0] rfl (by (try simp only [List.map_toArray, List.map_cons, List.map_nil]); first | done | rfl | (simp only [List.length_drop, List.length_take]; rfl)) ?_; (with_reducible refine (avalanche_copied.calls _ _ l0 t145 _ ?side1 ?side2 A9.out).mono ?_); (case side1 => repeat (first | exact (Kd.C_below HR0.out HB.out) | (with_reducible refine Kd.C_alloc ?_ _) | (with_reducible refine Kd.C_drewN ?_ _) | (with_reducible refine Kd.C_drew ?_))); (case side2 => exact HC0.out); rintro e w10 ⟨v146, rfl, ho0, hb⟩; refine ⟨_, rfl, ?_⟩; have n0_ := Aside0.mk (Kd.S_lower ho0 (below_size (by repeat (first | (with_reducible first | exact HB.out | apply below_alloc | apply pw_below_drewN | apply below_drew1) | exact HB.out)))); have n1_ := Aside0.mk (below_step (by repeat (first | (with_reducible first | exact HB.out | apply below_alloc | apply pw_below_drewN | apply below_drew1) | exact HB.out)) hb); clear HB; have HO147 := n0_; have HB := n1_; clear n0_ n1_; (try clear hb); (try clear hb2); (try clear hk); (try clear hi); (try clear ho0); obtain ⟨Ao11, co11, eo11⟩ := Kd.S_slice HO147.out; subst eo11))
        go_loopg [22] kj3 (fun kq v22 w' => ∃ (x8_2 : List (S34)) (x22_2 : Int), v22 = .int .i64 x22_2 ∧ Aside0 (avalanche_Grow.l0 kq a1 a2 x8_2 (t145.length : Int) x22_2 = some (r1, r2)) ∧ Aside0 (kq ≤ kj3) ∧ Aside0 (Kd.S k34 34 w' w.heap.size (fun _ => True) (.slice Ao11 t145.length co11) x8_2) ∧ Aside0 (Below w.heap.size w w'))
        case atStart => exact ⟨(t145), (0), (by first | rfl | (simp; done) | (simp [*]; done)), H', ⟨Nat.le_refl _⟩, ⟨by (with_reducible repeat (first | apply Kd.S_alloc | apply Kd.S_drewN | apply Kd.S_drew)); exact HO147.out⟩, ⟨by repeat (first | (with_reducible first | exact HB.out | apply below_alloc | apply pw_below_drewN | apply below_drew1) | exact HB.out)⟩⟩
        case round =>
          clear H'
          try clear c1
          try clear p2
          try clear c3
          try clear c6
          try clear c8
          try clear p2
          obtain ⟨x8_2, x22_2, rfl, HA, HK2, HO_8, HB⟩ := hrel
          have hl8_2 := (Kd.S_reads' HO_8.out).1
          rw [hl8_2] at HO_8
          (try simp only [hl8_2])
          cases gk with
          | zero => exact absurd HA.out (by simp [avalanche_Grow.l0])
          | succ k2 =>
            have H := HA.out
            clear HA
            simp only [avalanche_Grow.l0] at H
            by_cases c12 : x22_2 < (t145.length : Int)
            · rw [if_pos c12] at H
              have c12b0 : decide (x22_2 < (t145.length : Int)) = true := decide_eq_true c12
              (try simp only [hl8_2] at c12b0)
              clear c12
              by_cases c13 : 0 ≤ x22_2
              · rw [if_pos c13] at H
                have c13b0 : decide (0 ≤ x22_2) = true := decide_eq_true c13
                (try simp only [hl8_2] at c13b0)
                clear c13
                by_cases c14 : x22_2 < (x8_2.length : Int)
                · rw [if_pos c14] at H
                  have c14b0 : decide (x22_2 < (x8_2.length : Int)) = true := decide_eq_true c14
                  (try simp only [hl8_2] at c14b0)
                  clear c14
                  obtain ⟨ji15, hji15⟩ : ∃ j_ : Int, (mx 0 (wrap64 (a2 - 10000))) = j_ := ⟨_, rfl⟩
                  replace H : (avalanche_Grow.l0 k2 a1 a2 (x8_2.set (x22_2 : Int).toNat (⟨(rd_T34 x8_2 x22_2).f0, (rd_T34 x8_2 x22_2).f1, (rd_T34 x8_2 x22_2).f2, (rd_T34 x8_2 x22_2).f3, mn (wrap64 ((wrap64 (((rd_T34 x8_2 x22_2).f4) + a1)) + (wrap64 ((ji15) / 1000)))) 100000, (rd_T34 x8_2 x22_2).f5⟩ : S34)) (t145.length : Int) (wrap64 (x22_2 + 1))) = some (r1, r2) := by first | (rw [hji15] at H; exact H) | (simp only [hji15] at H ⊢; exact H)
                  have hji15_ : (if 0 < (wrap64 (a2 - 10000)) then (wrap64 (a2 - 10000)) else 0) = ji15 := hji15
                  obtain ⟨ji16, hji16⟩ : ∃ j_ : Int, (mn (wrap64 ((wrap64 (((rd_T34 x8_2 x22_2).f4) + a1)) + (wrap64 ((ji15) / 1000)))) 100000) = j_ := ⟨_, rfl⟩
                  replace H : (avalanche_Grow.l0 k2 a1 a2 (x8_2.set (x22_2 : Int).toNat (⟨(rd_T34 x8_2 x22_2).f0, (rd_T34 x8_2 x22_2).f1, (rd_T34 x8_2 x22_2).f2, (rd_T34 x8_2 x22_2).f3, ji16, (rd_T34 x8_2 x22_2).f5⟩ : S34)) (t145.length : Int) (wrap64 (x22_2 + 1))) = some (r1, r2) := by first | (rw [hji16] at H; exact H) | (simp only [hji16] at H ⊢; exact H)
                  have hji16_ : (if 100000 < (wrap64 ((wrap64 (((rd_T34 x8_2 x22_2).f4) + a1)) + (wrap64 ((ji15) / 1000)))) then 100000 else (wrap64 ((wrap64 (((rd_T34 x8_2 x22_2).f4) + a1)) + (wrap64 ((ji15) / 1000))))) = ji16 := hji16
                  rw [show ji15 / 1000 = Int.tdiv ji15 1000 from by rw [Int.tdiv_eq_ediv_of_nonneg]; rw [← hji15]; unfold mx; split <;> omega] at hji16_
                  obtain ⟨y149, hy149⟩ : ∃ y_ : List (S34), y_ = (x8_2.set (x22_2 : Int).toNat (⟨(rd_T34 x8_2 x22_2).f0, (rd_T34 x8_2 x22_2).f1, (rd_T34 x8_2 x22_2).f2, (rd_T34 x8_2 x22_2).f3, ji16, (rd_T34 x8_2 x22_2).f5⟩ : S34)) := ⟨_, rfl⟩
                  replace H : (avalanche_Grow.l0 k2 a1 a2 y149 (t145.length : Int) (wrap64 (x22_2 + 1))) = some (r1, r2) := by first | (rw [hy149]; with_reducible exact H) | (have H2_ := (Option.bind_some _ _).symm.trans H; rw [hy149]; with_reducible exact H2_) | (have H2_ := (Option.bind_some _ _).symm.trans H; with_reducible exact H2_) | with_reducible exact H | (rw [hy149]; exact H) | exact H
                  have Ny149 := Aside0.mk hy149
                  clear hy149
                  have H' := Aside0.mk H
                  clear H
                  have p148 : 0 ≤ (x22_2 : Int) := of_decide_eq_true (by first | (with_reducible assumption) | assumption)
                  have q148 : x22_2 < (x8_2.length : Int) := of_decide_eq_true (by first | (with_reducible assumption) | assumption)
                  obtain ⟨ad148, A148_1, c148_1, A148_2, c148_2, e148, hx148_0, hx148_1, hx148_2, hx148_3, hx148_4, hx148_5, hl148_1, hi148_1, hl148_2, hi148_2⟩ := at_T34 (Kd.S_reads' HO_8.out).2.2 x22_2 p148 q148
                  cases e148
                  obtain ⟨ce148, hce148, hMe148, hcc148⟩ := Kd.S_get HO_8.out z34 x22_2 p148 (by first | exact q148 | exact of_decide_eq_true (by first | (with_reducible assumption) | assumption) | (have e_ := (Kd.S_reads' HO_8.out).1; omega))
                  obtain ⟨ve148_1, ve148_2, rfl, ge148_1, ge148_2⟩ := k34_openM hMe148
                  have hv148_1 := hcc148 1 _ rfl
                  rw [add_field _ _ 1 (by omega)] at hv148_1
                  replace hv148_1 := Option.some.inj (hv148_1.symm.trans hx148_1)
                  rw [hv148_1] at ge148_1
                  have HL148_1 := Aside0.mk (show Kd.R (Kd.int .i64) 3 _ _ _ _ ((rd_T34 x8_2 x22_2).f1) from ge148_1)
                  clear hv148_1 ge148_1
                  have hv148_2 := hcc148 2 _ rfl
                  rw [add_field _ _ 2 (by omega)] at hv148_2
                  replace hv148_2 := Option.some.inj (hv148_2.symm.trans hx148_2)
                  rw [hv148_2] at ge148_2
                  have HL148_2 := Aside0.mk (show Kd.R (Kd.int .i64) 3 _ _ _ _ ((rd_T34 x8_2 x22_2).f2) from ge148_2)
                  clear hv148_2 ge148_2
                  clear hcc148 hce148
                  have HR148_1 := Aside0.mk hi148_1
                  have HC148_1 := Aside0.mk hl148_1
                  clear hi148_1 hl148_1
                  have HR148_2 := Aside0.mk hi148_2
                  have HC148_2 := Aside0.mk hl148_2
                  clear hi148_2 hl148_2
                  replace p148 := eq_true p148
                  replace q148 := eq_true q148
                  have p17 : 0 ≤ (x22_2 : Int) := of_decide_eq_true (by first | (with_reducible assumption) | assumption)
                  have q17 : (x22_2 : Int) < ((x8_2.length : Int) : Int) := of_decide_eq_true (by first | (with_reducible assumption) | assumption)
                  obtain ⟨go17, co17, eo17, gb17, gl17, cl17, HG17⟩ := Kd.S_form HO_8.out (by omega)
                  (first | cases eo17 | (injection eo17 with ea_ en_ ec_; (first | subst ea_ | (injection ea_ with ea_; subst ea_)); subst ec_; clear en_))
                  have GB17 := Aside0.mk gb17
                  have GG17 := Aside0.mk HG17
                  clear gb17 gl17 HG17
                  (first | simp only [add_plain] at hx148_0 | skip)
                  (first | simp only [add_plain] at hx148_1 | skip)
                  (first | simp only [add_plain] at hx148_2 | skip)
                  (first | simp only [add_plain] at hx148_3 | skip)
                  (first | simp only [add_plain] at hx148_4 | skip)
                  (first | simp only [add_plain] at hx148_5 | skip)
                  obtain ⟨_, ce17, hcl17, hM17, hcc17, hfr17, _, _⟩ := Kd.S_elem HO_8.out z34 (x22_2 : Int) p17 q17
                  obtain ⟨ve17_1, ve17_2, rfl, ge17_1, ge17_2⟩ := k34_openM hM17
                  have hx17_0 : wr.cell? ⟨go17, (x22_2 : Int).toNat * 6, none⟩ = some (.int .i64 ((rd_T34 x8_2 x22_2).f0)) := hcc17 0 _ rfl
                  have hx17_1 : wr.cell? ⟨go17, (x22_2 : Int).toNat * 6 + 1, none⟩ = some (ve17_1) := hcc17 1 _ rfl
                  have hx17_2 : wr.cell? ⟨go17, (x22_2 : Int).toNat * 6 + 2, none⟩ = some (ve17_2) := hcc17 2 _ rfl
                  have hx17_3 : wr.cell? ⟨go17, (x22_2 : Int).toNat * 6 + 3, none⟩ = some (.int .i64 ((rd_T34 x8_2 x22_2).f3)) := hcc17 3 _ rfl
                  have hx17_4 : wr.cell? ⟨go17, (x22_2 : Int).toNat * 6 + 4, none⟩ = some (.int .i64 ((rd_T34 x8_2 x22_2).f4)) := hcc17 4 _ rfl
                  have hx17_5 : wr.cell? ⟨go17, (x22_2 : Int).toNat * 6 + 5, none⟩ = some (.int .i64 ((rd_T34 x8_2 x22_2).f5)) := hcc17 5 _ rfl
                  have hf17_0 : wr.frozen? ⟨go17, (x22_2 : Int).toNat * 6, none⟩ = false := hfr17 0
                  have hf17_1 : wr.frozen? ⟨go17, (x22_2 : Int).toNat * 6 + 1, none⟩ = false := hfr17 1
                  have hf17_2 : wr.frozen? ⟨go17, (x22_2 : Int).toNat * 6 + 2, none⟩ = false := hfr17 2
                  have hf17_3 : wr.frozen? ⟨go17, (x22_2 : Int).toNat * 6 + 3, none⟩ = false := hfr17 3
                  have hf17_4 : wr.frozen? ⟨go17, (x22_2 : Int).toNat * 6 + 4, none⟩ = false := hfr17 4
                  have hf17_5 : wr.frozen? ⟨go17, (x22_2 : Int).toNat * 6 + 5, none⟩ = false := hfr17 5
                  clear hcl17 hcc17 hfr17 hM17
                  replace p17 := eq_true p17
                  replace q17 := eq_true q17
                  have HX18 := Aside0.mk (show Kd.S k34 34 wr w.heap.size (fun k_ => ((fun _ => True)) k_ ∧ ¬ ((fun _ => False)) k_) (.slice (some ⟨go17, 0, none⟩) x8_2.length co11) x8_2 from (by (with_reducible repeat (first | apply Kd.S_alloc | apply Kd.S_drewN | apply Kd.S_drew)); exact Kd.S_mono HO_8.out (fun k_ hk => ⟨trivial, fun e_ => e_⟩)))
                  obtain ⟨oki18, ce18, hcl18, hM18, hcc18, hfr18, hoki18, hH18⟩ := Kd.S_elem HX18.out z34 (x22_2 : Int) (of_decide_eq_true (by first | (with_reducible assumption) | assumption)) (by have h_ : (x22_2 : Int) < ((x8_2.length : Int) : Int) := of_decide_eq_true (by first | (with_reducible assumption) | assumption); first | exact h_ | (have e_ := (Kd.S_reads' HO_8.out).1; omega) | simpa using h_)
                  obtain ⟨ve18_1, ve18_2, rfl, ge18_1, ge18_2⟩ := k34_openM hM18
                  have HP18 := Kd.S_seg hH18 (of_decide_eq_true (by first | (with_reducible assumption) | assumption)) (by have h_ : (x22_2 : Int) < ((x8_2.length : Int) : Int) := of_decide_eq_true (by first | (with_reducible assumption) | assumption); first | exact h_ | (have e_ := (Kd.S_reads' HO_8.out).1; omega) | simpa using h_) (seg := [.int .i64 ji16]) (j := 4) (show 5 ≤ 6 from by decide) (x' := (⟨(rd_T34 x8_2 x22_2).f0, (rd_T34 x8_2 x22_2).f1, (rd_T34 x8_2 x22_2).f2, (rd_T34 x8_2 x22_2).f3, ji16, (rd_T34 x8_2 x22_2).f5⟩ : S34)) (k34_mkM _ _ _ (⟨(rd_T34 x8_2 x22_2).f0, (rd_T34 x8_2 x22_2).f1, (rd_T34 x8_2 x22_2).f2, (rd_T34 x8_2 x22_2).f3, ji16, (rd_T34 x8_2 x22_2).f5⟩ : S34) (Kd.R_mono ge18_1 (fun _ h_ => Or.inl h_)) (Kd.R_mono ge18_2 (fun _ h_ => Or.inl h_))) (fun _ hk => hk) (fun k_ hk_ => hk_.elim)
                  have hx18_4 := hcc18 4 _ rfl
                  (try simp only [show (k34).sz = 6 from rfl, Nat.mul_one, Nat.add_zero] at hx18_4)
                  have hf18_4 := hfr18 4
                  (try simp only [show (k34).sz = 6 from rfl, Nat.mul_one, Nat.add_zero] at hf18_4)
                  clear hcl18 hcc18 hfr18 hM18 hoki18 hH18
                  go_wp2_with (first | ((with_reducible refine gate_store (t := 3) (p := 41) rfl ?_); refine store_event (t := 3) (p := 41) (v := ?vo_w19) (w1 := (wr.setCell ⟨go17, (x22_2 : Int).toNat * 6 + 4, none⟩ (.int .i64 ji16))) ?hg ?ho ?hn ?hr ?_; (case ho => rfl); (case hg => rfl); (case hn => rfl); (case hr => first | (go_simp; done) | (go_simp; rfl)); intro w19 hw; have hg : wr.grownBy w19 (some go17) := (by rw [hw]; exact HP18.2); have hp_ : Kd.S k34 34 w19 w.heap.size (fun _ => True) (.slice (some ⟨go17, 0, none⟩) x8_2.length co11) y149 := (by rw [hw, Ny149.out]; exact HP18.1); clear HP18; have n0_ := Aside0.mk (hp_); have n1_ := Aside0.mk (Kd.R_after (v := (.slice (some ⟨go17, 0, none⟩) x8_2.length co11)) (v1 := (.slice (some ⟨go17, 0, none⟩) x8_2.length co11)) (ok := (fun _ => True)) (by (with_reducible repeat (first | apply Kd.R_alloc | apply Kd.R_drewN | apply Kd.R_drew)); exact HL148_1.out) hg (.inl rfl)); have n2_ := Aside0.mk (Kd.R_after (v := (.slice (some ⟨go17, 0, none⟩) x8_2.length co11)) (v1 := (.slice (some ⟨go17, 0, none⟩) x8_2.length co11)) (ok := (fun _ => True)) (by (with_reducible repeat (first | apply Kd.R_alloc | apply Kd.R_drewN | apply Kd.R_drew)); exact HL148_2.out) hg (.inl rfl)); have n3_ := Aside0.mk ((by rw [hw]; exact below_set (HB.out) GB17.out : Below w.heap.size w w19)); clear HO_8; clear HL148_1; clear HL148_2; clear HB; have HO_8 := n0_; have HL148_1 := n1_; have HL148_2 := n2_; have HB := n3_; clear n0_ n1_ n2_ n3_; clear hg hw hp_))
                  (try simp only [← hl8_2])
                  go_roundg k2
                  case measure => have := HJ3.out; have := HK2.out; omega
                  case rel => exact ⟨(y149), (wrap64 (x22_2 + 1)), (by first | rfl | (simp; done) | (simp [*]; done)), H', ⟨by have := HJ3.out; have := HK2.out; omega⟩, ⟨by (try simp only [hl8_2]); (with_reducible repeat (first | apply Kd.S_alloc | apply Kd.S_drewN | apply Kd.S_drew)); exact HO_8.out⟩, ⟨by repeat (first | (with_reducible first | exact HB.out | apply below_alloc | apply pw_below_drewN | apply below_drew1) | exact HB.out)⟩⟩
                · rw [if_neg c14] at H
                  exact absurd H (by simp)
              · rw [if_neg c13] at H
                exact absurd H (by simp)
            · rw [if_neg c12] at H
              have c12b0 : decide (x22_2 < (t145.length : Int)) = false := decide_eq_false c12
              (try simp only [hl8_2] at c12b0)
              clear c12
              simp only [Option.some.injEq, Prod.mk.injEq] at H
              obtain ⟨rfl, rfl⟩ := H
              go_wp2
              go_ret2
              exact ⟨_, by first | rfl | (simp [errW_none, errW_some] <;> rfl) | (simp [*, errW_none, errW_some] <;> rfl), by (with_reducible repeat (first | apply Kd.S_alloc | apply Kd.S_drewN | apply Kd.S_drew)); exact HO_8.out, by repeat (first | (with_reducible first | exact HB.out | apply below_alloc | apply pw_below_drewN | apply below_drew1) | exact HB.out)⟩

end Go.Proofs.Ytfjnpdgjigkbcaa.PAll
