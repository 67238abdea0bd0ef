/- What each of these functions computes, and its contract over the machine: printed by a program out of the translation. No condition but those that each theorem states. -/
import Derived.Test.YtfjnpdgjigkbcaaPAllx0
import Derived.Test.YtfjnpdgjigkbcaaGOwn
namespace Go.Proofs.Ytfjnpdgjigkbcaa.PAll
open Go.RowKit Go.Proofs.YtfjnpdgjigkbcaaW.PrintWords Go.Proofs.YtfjnpdgjigkbcaaW.PrintLast Go.Proofs.YtfjnpdgjigkbcaaW.PrintMore
attribute [local go_sem] max2_int min2_int max_two min_two max_three min_three max_four min_four   -- for this text's walks alone
set_option linter.unusedVariables false
set_option linter.unusedSimpArgs false

/-! ### skiarearef50_Control: function 19 -/
def skiarearef50_Control.l0 : Nat → Int → Int → List (S34) → Int → Option ((List (S34)) × Int)
  | 0, _, _, _, _ => none
  | k + 1, x1, x2, x8, x9 => if x9 < (x8.length : Int) then (if 0 ≤ x9 then (if ((rd_T34 x8 x9).f0) = x1 then (if x2 < ((rd_T34 x8 x9).f5) then (some (([] : List (S34)), 11)) else (if x2 < 0 then (some (([] : List (S34)), 11)) else (if x2 > 20000000 then (some (([] : List (S34)), 11)) else ((some (x8.set (x9 : Int).toNat (⟨(rd_T34 x8 x9).f0, (rd_T34 x8 x9).f1, (rd_T34 x8 x9).f2, (rd_T34 x8 x9).f3, 0, (rd_T34 x8 x9).f5⟩ : S34) : List (S34))).bind fun y189 => (some ((y189.set (x9 : Int).toNat (⟨(rd_T34 y189 x9).f0, (rd_T34 y189 x9).f1, (rd_T34 y189 x9).f2, (rd_T34 y189 x9).f3, (rd_T34 y189 x9).f4, x2⟩ : S34)), 0)))))) else (skiarearef50_Control.l0 k x1 x2 x8 (wrap64 (x9 + 1)))) else (none)) else (some (([] : List (S34)), 8))
def skiarearef50_Control.f (k : Nat) (l0 : List (S34)) (a1 : Int) (a2 : Int) : Option ((List (S34)) × Int) := (skiarearef50_Own.f l0).bind fun t184 => (skiarearef50_Control.l0 k a1 a2 t184 0)
theorem skiarearef50_Control.mono_l : ∀ k, (∀ y0 y1 y2 y3, LeO (skiarearef50_Control.l0 k y0 y1 y2 y3) (skiarearef50_Control.l0 (k + 1) y0 y1 y2 y3))
  | 0 => fun _ _ _ _ r h => by simp [skiarearef50_Control.l0] at h
  | k + 1 => by
    have ih0 := skiarearef50_Control.mono_l k
    · intro y0 y1 y2 y3
      unfold skiarearef50_Control.l0
      repeat' first
      | (with_reducible exact ih0 _ _ _ _)
      | (with_reducible exact LeO.refl _)
      | (with_reducible exact LeO.none _)
      | (with_reducible refine LeO.ite ?_ ?_)
      | (with_reducible refine LeO.bind ?_ (fun _ => ?_))
      | exact ih0 _ _ _ _
      | exact LeO.none _
      | refine LeO.ite ?_ ?_
      | refine LeO.bind ?_ (fun _ => ?_)
theorem skiarearef50_Control.mono : ∀ a0 a1 a2 k, LeO (skiarearef50_Control.f k a0 a1 a2) (skiarearef50_Control.f (k + 1) a0 a1 a2) := by
  intro a0 a1 a2 k
  have ih0 := skiarearef50_Control.mono_l k
  unfold skiarearef50_Control.f
  repeat' first
      | (with_reducible exact ih0 _ _ _ _)
      | (with_reducible exact LeO.refl _)
      | (with_reducible exact LeO.none _)
      | (with_reducible refine LeO.ite ?_ ?_)
      | (with_reducible refine LeO.bind ?_ (fun _ => ?_))
      | exact ih0 _ _ _ _
      | exact LeO.none _
      | refine LeO.ite ?_ ?_
      | refine LeO.bind ?_ (fun _ => ?_)
set_option maxHeartbeats 8000000 in
set_option maxRecDepth 100000 in
theorem skiarearef50_Control.calls (k : Nat) (A0 : Option Addr) (c0 : Nat) (l0 : List (S34)) (a1 : Int) (a2 : Int) (r1 : List (S34)) (r2 : Int) (w : World) (hr0 : Kd.C k34 w A0 l0.length l0) (hc0 : l0.length ≤ c0) (h : skiarearef50_Control.f k l0 a1 a2 = some (r1, r2)) :
    Calls Try.prog 19 #[.slice A0 l0.length c0, .int .i64 a1, .int .i64 a2] w fun e w' => ∃ v0_ : Value, e = .returned (.tuple #[v0_, .int .i64 r2]) ∧ Kd.S k34 34 w' w.heap.size (fun _ => True) v0_ r1 ∧ Below w.heap.size w w' := by
  have HR0 := Aside0.mk hr0
  have HC0 := Aside0.mk hc0
  clear hr0 hc0
  have HB := Aside0.mk (Below.refl w.heap.size w)
  have H : ((skiarearef50_Own.f l0).bind fun t184 => (skiarearef50_Control.l0 k a1 a2 t184 0)) = some (r1, r2) := h
  clear h
  replace H := Option.bind_eq_some_iff.mp H
  obtain ⟨t184, A40, H⟩ := H
  replace H : (skiarearef50_Control.l0 k a1 a2 t184 0) = some (r1, r2) := H
  have A4 := Aside0.mk A40
  clear A40
  have H' := Aside0.mk H
  clear H
  go_enter Try.func19, Try.ntmps19
  go_wp2_with (first | ((with_reducible refine gate_callee (f := 31) rfl ?_); refine goesL_ (some 11) rfl rfl Try.func31 (by kernel_rfl) rfl #[.slice A0 l0.length c0] rfl (by (try simp only [List.map_toArray, List.map_cons, List.map_nil]); first | done | rfl | (simp only [List.length_drop, List.length_take]; rfl)) ?_; (with_reducible refine (skiarearef50_Own.calls _ _ l0 t184 _ ?side1 ?side2 A4.out).mono ?_); (case side1 => repeat (first | exact HR0.out | (with_reducible refine Kd.C_alloc ?_ _) | (with_reducible refine Kd.C_drewN ?_ _) | (with_reducible refine Kd.C_drew ?_))); (case side2 => exact HC0.out); rintro e w5 ⟨v185, rfl, ho0, hb⟩; refine ⟨_, rfl, ?_⟩; have n0_ := Aside0.mk (Kd.S_lower ho0 (below_size (by repeat (first | (with_reducible first | exact HB.out | apply below_alloc | apply pw_below_drewN | apply below_drew1) | exact HB.out)))); have n1_ := Aside0.mk (below_step (by repeat (first | (with_reducible first | exact HB.out | apply below_alloc | apply pw_below_drewN | apply below_drew1) | exact HB.out)) hb); clear HB; have HO186 := n0_; have HB := n1_; clear n0_ n1_; (try clear hb); (try clear hb2); (try clear hk); (try clear hi); (try clear ho0)))
  go_loopg [9] k (fun kq v9 w' => ∃ (x8_1 : List (S34)) (x9_1 : Int), v9 = .int .i64 x9_1 ∧ Aside0 (skiarearef50_Control.l0 kq a1 a2 x8_1 x9_1 = some (r1, r2)) ∧ Aside0 (kq ≤ k) ∧ Aside0 (Kd.S k34 34 w' w.heap.size (fun _ => True) v185 x8_1) ∧ Aside0 (Below w.heap.size w w'))
  case atStart => exact ⟨(t184), (0), (by first | rfl | (simp; done) | (simp [*]; done)), H', ⟨Nat.le_refl _⟩, ⟨by (with_reducible repeat (first | apply Kd.S_alloc | apply Kd.S_drewN | apply Kd.S_drew)); exact HO186.out⟩, ⟨by repeat (first | (with_reducible first | exact HB.out | apply below_alloc | apply pw_below_drewN | apply below_drew1) | exact HB.out)⟩⟩
  case round =>
    clear H'
    try clear c1
    try clear p2
    try clear c3
    obtain ⟨x8_1, x9_1, rfl, HA, HK1, HO_8, HB⟩ := hrel
    cases gk with
    | zero => exact absurd HA.out (by simp [skiarearef50_Control.l0])
    | succ k1 =>
      have H := HA.out
      clear HA
      simp only [skiarearef50_Control.l0] at H
      by_cases c6 : x9_1 < (x8_1.length : Int)
      · rw [if_pos c6] at H
        have c6b0 : decide (x9_1 < (x8_1.length : Int)) = true := decide_eq_true c6
        clear c6
        by_cases c7 : 0 ≤ x9_1
        · rw [if_pos c7] at H
          have c7b0 : decide (0 ≤ x9_1) = true := decide_eq_true c7
          clear c7
          by_cases c8 : ((rd_T34 x8_1 x9_1).f0) = a1
          · rw [if_pos c8] at H
            have c8b0 : (((rd_T34 x8_1 x9_1).f0) == a1) = true := beq_iff_eq.mpr c8
            have c8b1 : (((rd_T34 x8_1 x9_1).f0) != a1) = false := bne_eq_false_iff_eq.mpr c8
            clear c8
            by_cases c9 : a2 < ((rd_T34 x8_1 x9_1).f5)
            · rw [if_pos c9] at H
              have c9b0 : decide (a2 < ((rd_T34 x8_1 x9_1).f5)) = true := decide_eq_true c9
              clear c9
              simp only [Option.some.injEq, Prod.mk.injEq] at H
              obtain ⟨rfl, rfl⟩ := H
              obtain ⟨Ao10, co10, eo10⟩ := Kd.S_slice HO_8.out
              subst eo10
              have p187 : 0 ≤ (x9_1 : Int) := of_decide_eq_true (by first | (with_reducible assumption) | assumption)
              have q187 : x9_1 < (x8_1.length : Int) := of_decide_eq_true (by first | (with_reducible assumption) | assumption)
              obtain ⟨ad187, A187_1, c187_1, A187_2, c187_2, e187, hx187_0, hx187_1, hx187_2, hx187_3, hx187_4, hx187_5, hl187_1, hi187_1, hl187_2, hi187_2⟩ := at_T34 (Kd.S_reads' HO_8.out).2.2 x9_1 p187 q187
              cases e187
              obtain ⟨ce187, hce187, hMe187, hcc187⟩ := Kd.S_get HO_8.out z34 x9_1 p187 (by first | exact q187 | exact of_decide_eq_true (by first | (with_reducible assumption) | assumption) | (have e_ := (Kd.S_reads' HO_8.out).1; omega))
              obtain ⟨ve187_1, ve187_2, rfl, ge187_1, ge187_2⟩ := k34_openM hMe187
              have hv187_1 := hcc187 1 _ rfl
              rw [add_field _ _ 1 (by omega)] at hv187_1
              replace hv187_1 := Option.some.inj (hv187_1.symm.trans hx187_1)
              rw [hv187_1] at ge187_1
              have HL187_1 := Aside0.mk (show Kd.R (Kd.int .i64) 3 _ _ _ _ ((rd_T34 x8_1 x9_1).f1) from ge187_1)
              clear hv187_1 ge187_1
              have hv187_2 := hcc187 2 _ rfl
              rw [add_field _ _ 2 (by omega)] at hv187_2
              replace hv187_2 := Option.some.inj (hv187_2.symm.trans hx187_2)
              rw [hv187_2] at ge187_2
              have HL187_2 := Aside0.mk (show Kd.R (Kd.int .i64) 3 _ _ _ _ ((rd_T34 x8_1 x9_1).f2) from ge187_2)
              clear hv187_2 ge187_2
              clear hcc187 hce187
              have HR187_1 := Aside0.mk hi187_1
              have HC187_1 := Aside0.mk hl187_1
              clear hi187_1 hl187_1
              have HR187_2 := Aside0.mk hi187_2
              have HC187_2 := Aside0.mk hl187_2
              clear hi187_2 hl187_2
              replace p187 := eq_true p187
              replace q187 := eq_true q187
              have p188 : 0 ≤ (x9_1 : Int) := of_decide_eq_true (by first | (with_reducible assumption) | assumption)
              have q188 : x9_1 < (x8_1.length : Int) := of_decide_eq_true (by first | (with_reducible assumption) | assumption)
              obtain ⟨ad188, A188_1, c188_1, A188_2, c188_2, e188, hx188_0, hx188_1, hx188_2, hx188_3, hx188_4, hx188_5, hl188_1, hi188_1, hl188_2, hi188_2⟩ := at_T34 (Kd.S_reads' HO_8.out).2.2 x9_1 p188 q188
              obtain rfl : ad187 = ad188 := (by injection e188)
              obtain ⟨ce188, hce188, hMe188, hcc188⟩ := Kd.S_get HO_8.out z34 x9_1 p188 (by first | exact q188 | exact of_decide_eq_true (by first | (with_reducible assumption) | assumption) | (have e_ := (Kd.S_reads' HO_8.out).1; omega))
              obtain ⟨ve188_1, ve188_2, rfl, ge188_1, ge188_2⟩ := k34_openM hMe188
              have hv188_1 := hcc188 1 _ rfl
              rw [add_field _ _ 1 (by omega)] at hv188_1
              replace hv188_1 := Option.some.inj (hv188_1.symm.trans hx188_1)
              rw [hv188_1] at ge188_1
              have HL188_1 := Aside0.mk (show Kd.R (Kd.int .i64) 3 _ _ _ _ ((rd_T34 x8_1 x9_1).f1) from ge188_1)
              clear hv188_1 ge188_1
              have hv188_2 := hcc188 2 _ rfl
              rw [add_field _ _ 2 (by omega)] at hv188_2
              replace hv188_2 := Option.some.inj (hv188_2.symm.trans hx188_2)
              rw [hv188_2] at ge188_2
              have HL188_2 := Aside0.mk (show Kd.R (Kd.int .i64) 3 _ _ _ _ ((rd_T34 x8_1 x9_1).f2) from ge188_2)
              clear hv188_2 ge188_2
              clear hcc188 hce188
              have HR188_1 := Aside0.mk hi188_1
              have HC188_1 := Aside0.mk hl188_1
              clear hi188_1 hl188_1
              have HR188_2 := Aside0.mk hi188_2
              have HC188_2 := Aside0.mk hl188_2
              clear hi188_2 hl188_2
              replace p188 := eq_true p188
              replace q188 := eq_true q188
              have ea_ := Option.some.inj (hx187_1.symm.trans hx188_1)
              injection ea_ with ea_ en_ ec_
              subst ea_
              subst ec_
              clear en_
              have ea_ := Option.some.inj (hx187_2.symm.trans hx188_2)
              injection ea_ with ea_ en_ ec_
              subst ea_
              subst ec_
              clear en_
              go_wp2
              go_ret2
              exact ⟨_, by first | rfl | (simp [errW_none, errW_some] <;> rfl) | (simp [*, errW_none, errW_some] <;> rfl), by first | exact Kd.S_nil _ _ _ _ _ | exact Kd.N_nil _ _ _ _ _ | exact Kd.V_nil _ _ _ _ _ | exact Kd.Q_nil _ _ _ _ _ | exact Kd.R_nil _ _ _ _ _, by repeat (first | (with_reducible first | exact HB.out | apply below_alloc | apply pw_below_drewN | apply below_drew1) | exact HB.out)⟩
            · rw [if_neg c9] at H
              have c9b0 : decide (a2 < ((rd_T34 x8_1 x9_1).f5)) = false := decide_eq_false c9
              clear c9
              by_cases c11 : a2 < 0
              · rw [if_pos c11] at H
                have c11b0 : decide (a2 < 0) = true := decide_eq_true c11
                clear c11
                simp only [Option.some.injEq, Prod.mk.injEq] at H
                obtain ⟨rfl, rfl⟩ := H
                obtain ⟨Ao12, co12, eo12⟩ := Kd.S_slice HO_8.out
                subst eo12
                have p187 : 0 ≤ (x9_1 : Int) := of_decide_eq_true (by first | (with_reducible assumption) | assumption)
                have q187 : x9_1 < (x8_1.length : Int) := of_decide_eq_true (by first | (with_reducible assumption) | assumption)
                obtain ⟨ad187, A187_1, c187_1, A187_2, c187_2, e187, hx187_0, hx187_1, hx187_2, hx187_3, hx187_4, hx187_5, hl187_1, hi187_1, hl187_2, hi187_2⟩ := at_T34 (Kd.S_reads' HO_8.out).2.2 x9_1 p187 q187
                cases e187
                obtain ⟨ce187, hce187, hMe187, hcc187⟩ := Kd.S_get HO_8.out z34 x9_1 p187 (by first | exact q187 | exact of_decide_eq_true (by first | (with_reducible assumption) | assumption) | (have e_ := (Kd.S_reads' HO_8.out).1; omega))
                obtain ⟨ve187_1, ve187_2, rfl, ge187_1, ge187_2⟩ := k34_openM hMe187
                have hv187_1 := hcc187 1 _ rfl
                rw [add_field _ _ 1 (by omega)] at hv187_1
                replace hv187_1 := Option.some.inj (hv187_1.symm.trans hx187_1)
                rw [hv187_1] at ge187_1
                have HL187_1 := Aside0.mk (show Kd.R (Kd.int .i64) 3 _ _ _ _ ((rd_T34 x8_1 x9_1).f1) from ge187_1)
                clear hv187_1 ge187_1
                have hv187_2 := hcc187 2 _ rfl
                rw [add_field _ _ 2 (by omega)] at hv187_2
                replace hv187_2 := Option.some.inj (hv187_2.symm.trans hx187_2)
                rw [hv187_2] at ge187_2
                have HL187_2 := Aside0.mk (show Kd.R (Kd.int .i64) 3 _ _ _ _ ((rd_T34 x8_1 x9_1).f2) from ge187_2)
                clear hv187_2 ge187_2
                clear hcc187 hce187
                have HR187_1 := Aside0.mk hi187_1
                have HC187_1 := Aside0.mk hl187_1
                clear hi187_1 hl187_1
                have HR187_2 := Aside0.mk hi187_2
                have HC187_2 := Aside0.mk hl187_2
                clear hi187_2 hl187_2
                replace p187 := eq_true p187
                replace q187 := eq_true q187
                have p188 : 0 ≤ (x9_1 : Int) := of_decide_eq_true (by first | (with_reducible assumption) | assumption)
                have q188 : x9_1 < (x8_1.length : Int) := of_decide_eq_true (by first | (with_reducible assumption) | assumption)
                obtain ⟨ad188, A188_1, c188_1, A188_2, c188_2, e188, hx188_0, hx188_1, hx188_2, hx188_3, hx188_4, hx188_5, hl188_1, hi188_1, hl188_2, hi188_2⟩ := at_T34 (Kd.S_reads' HO_8.out).2.2 x9_1 p188 q188
                obtain rfl : ad187 = ad188 := (by injection e188)
                obtain ⟨ce188, hce188, hMe188, hcc188⟩ := Kd.S_get HO_8.out z34 x9_1 p188 (by first | exact q188 | exact of_decide_eq_true (by first | (with_reducible assumption) | assumption) | (have e_ := (Kd.S_reads' HO_8.out).1; omega))
                obtain ⟨ve188_1, ve188_2, rfl, ge188_1, ge188_2⟩ := k34_openM hMe188
                have hv188_1 := hcc188 1 _ rfl
                rw [add_field _ _ 1 (by omega)] at hv188_1
                replace hv188_1 := Option.some.inj (hv188_1.symm.trans hx188_1)
                rw [hv188_1] at ge188_1
                have HL188_1 := Aside0.mk (show Kd.R (Kd.int .i64) 3 _ _ _ _ ((rd_T34 x8_1 x9_1).f1) from ge188_1)
                clear hv188_1 ge188_1
                have hv188_2 := hcc188 2 _ rfl
                rw [add_field _ _ 2 (by omega)] at hv188_2
                replace hv188_2 := Option.some.inj (hv188_2.symm.trans hx188_2)
                rw [hv188_2] at ge188_2
                have HL188_2 := Aside0.mk (show Kd.R (Kd.int .i64) 3 _ _ _ _ ((rd_T34 x8_1 x9_1).f2) from ge188_2)
                clear hv188_2 ge188_2
                clear hcc188 hce188
                have HR188_1 := Aside0.mk hi188_1
                have HC188_1 := Aside0.mk hl188_1
                clear hi188_1 hl188_1
                have HR188_2 := Aside0.mk hi188_2
                have HC188_2 := Aside0.mk hl188_2
                clear hi188_2 hl188_2
                replace p188 := eq_true p188
                replace q188 := eq_true q188
                have ea_ := Option.some.inj (hx187_1.symm.trans hx188_1)
                injection ea_ with ea_ en_ ec_
                subst ea_
                subst ec_
                clear en_
                have ea_ := Option.some.inj (hx187_2.symm.trans hx188_2)
                injection ea_ with ea_ en_ ec_
                subst ea_
                subst ec_
                clear en_
                go_wp2
                go_ret2
                exact ⟨_, by first | rfl | (simp [errW_none, errW_some] <;> rfl) | (simp [*, errW_none, errW_some] <;> rfl), by first | exact Kd.S_nil _ _ _ _ _ | exact Kd.N_nil _ _ _ _ _ | exact Kd.V_nil _ _ _ _ _ | exact Kd.Q_nil _ _ _ _ _ | exact Kd.R_nil _ _ _ _ _, by repeat (first | (with_reducible first | exact HB.out | apply below_alloc | apply pw_below_drewN | apply below_drew1) | exact HB.out)⟩
              · rw [if_neg c11] at H
                have c11b0 : decide (a2 < 0) = false := decide_eq_false c11
                clear c11
                by_cases c13 : a2 > 20000000
                · rw [if_pos c13] at H
                  have c13b0 : decide (20000000 < a2) = true := decide_eq_true c13
                  clear c13
                  simp only [Option.some.injEq, Prod.mk.injEq] at H
                  obtain ⟨rfl, rfl⟩ := H
                  obtain ⟨Ao14, co14, eo14⟩ := Kd.S_slice HO_8.out
                  subst eo14
                  have p187 : 0 ≤ (x9_1 : Int) := of_decide_eq_true (by first | (with_reducible assumption) | assumption)
                  have q187 : x9_1 < (x8_1.length : Int) := of_decide_eq_true (by first | (with_reducible assumption) | assumption)
                  obtain ⟨ad187, A187_1, c187_1, A187_2, c187_2, e187, hx187_0, hx187_1, hx187_2, hx187_3, hx187_4, hx187_5, hl187_1, hi187_1, hl187_2, hi187_2⟩ := at_T34 (Kd.S_reads' HO_8.out).2.2 x9_1 p187 q187
                  cases e187
                  obtain ⟨ce187, hce187, hMe187, hcc187⟩ := Kd.S_get HO_8.out z34 x9_1 p187 (by first | exact q187 | exact of_decide_eq_true (by first | (with_reducible assumption) | assumption) | (have e_ := (Kd.S_reads' HO_8.out).1; omega))
                  obtain ⟨ve187_1, ve187_2, rfl, ge187_1, ge187_2⟩ := k34_openM hMe187
                  have hv187_1 := hcc187 1 _ rfl
                  rw [add_field _ _ 1 (by omega)] at hv187_1
                  replace hv187_1 := Option.some.inj (hv187_1.symm.trans hx187_1)
                  rw [hv187_1] at ge187_1
                  have HL187_1 := Aside0.mk (show Kd.R (Kd.int .i64) 3 _ _ _ _ ((rd_T34 x8_1 x9_1).f1) from ge187_1)
                  clear hv187_1 ge187_1
                  have hv187_2 := hcc187 2 _ rfl
                  rw [add_field _ _ 2 (by omega)] at hv187_2
                  replace hv187_2 := Option.some.inj (hv187_2.symm.trans hx187_2)
                  rw [hv187_2] at ge187_2
                  have HL187_2 := Aside0.mk (show Kd.R (Kd.int .i64) 3 _ _ _ _ ((rd_T34 x8_1 x9_1).f2) from ge187_2)
                  clear hv187_2 ge187_2
                  clear hcc187 hce187
                  have HR187_1 := Aside0.mk hi187_1
                  have HC187_1 := Aside0.mk hl187_1
                  clear hi187_1 hl187_1
                  have HR187_2 := Aside0.mk hi187_2
                  have HC187_2 := Aside0.mk hl187_2
                  clear hi187_2 hl187_2
                  replace p187 := eq_true p187
                  replace q187 := eq_true q187
                  have p188 : 0 ≤ (x9_1 : Int) := of_decide_eq_true (by first | (with_reducible assumption) | assumption)
                  have q188 : x9_1 < (x8_1.length : Int) := of_decide_eq_true (by first | (with_reducible assumption) | assumption)
                  obtain ⟨ad188, A188_1, c188_1, A188_2, c188_2, e188, hx188_0, hx188_1, hx188_2, hx188_3, hx188_4, hx188_5, hl188_1, hi188_1, hl188_2, hi188_2⟩ := at_T34 (Kd.S_reads' HO_8.out).2.2 x9_1 p188 q188
                  obtain rfl : ad187 = ad188 := (by injection e188)
                  obtain ⟨ce188, hce188, hMe188, hcc188⟩ := Kd.S_get HO_8.out z34 x9_1 p188 (by first | exact q188 | exact of_decide_eq_true (by first | (with_reducible assumption) | assumption) | (have e_ := (Kd.S_reads' HO_8.out).1; omega))
                  obtain ⟨ve188_1, ve188_2, rfl, ge188_1, ge188_2⟩ := k34_openM hMe188
                  have hv188_1 := hcc188 1 _ rfl
                  rw [add_field _ _ 1 (by omega)] at hv188_1
                  replace hv188_1 := Option.some.inj (hv188_1.symm.trans hx188_1)
                  rw [hv188_1] at ge188_1
                  have HL188_1 := Aside0.mk (show Kd.R (Kd.int .i64) 3 _ _ _ _ ((rd_T34 x8_1 x9_1).f1) from ge188_1)
                  clear hv188_1 ge188_1
                  have hv188_2 := hcc188 2 _ rfl
                  rw [add_field _ _ 2 (by omega)] at hv188_2
                  replace hv188_2 := Option.some.inj (hv188_2.symm.trans hx188_2)
                  rw [hv188_2] at ge188_2
                  have HL188_2 := Aside0.mk (show Kd.R (Kd.int .i64) 3 _ _ _ _ ((rd_T34 x8_1 x9_1).f2) from ge188_2)
                  clear hv188_2 ge188_2
                  clear hcc188 hce188
                  have HR188_1 := Aside0.mk hi188_1
                  have HC188_1 := Aside0.mk hl188_1
                  clear hi188_1 hl188_1
                  have HR188_2 := Aside0.mk hi188_2
                  have HC188_2 := Aside0.mk hl188_2
                  clear hi188_2 hl188_2
                  replace p188 := eq_true p188
                  replace q188 := eq_true q188
                  have ea_ := Option.some.inj (hx187_1.symm.trans hx188_1)
                  injection ea_ with ea_ en_ ec_
                  subst ea_
                  subst ec_
                  clear en_
                  have ea_ := Option.some.inj (hx187_2.symm.trans hx188_2)
                  injection ea_ with ea_ en_ ec_
                  subst ea_
                  subst ec_
                  clear en_
                  go_wp2
                  go_ret2
                  exact ⟨_, by first | rfl | (simp [errW_none, errW_some] <;> rfl) | (simp [*, errW_none, errW_some] <;> rfl), by first | exact Kd.S_nil _ _ _ _ _ | exact Kd.N_nil _ _ _ _ _ | exact Kd.V_nil _ _ _ _ _ | exact Kd.Q_nil _ _ _ _ _ | exact Kd.R_nil _ _ _ _ _, by repeat (first | (with_reducible first | exact HB.out | apply below_alloc | apply pw_below_drewN | apply below_drew1) | exact HB.out)⟩
                · rw [if_neg c13] at H
                  have c13b0 : decide (20000000 < a2) = false := decide_eq_false c13
                  clear c13
                  obtain ⟨y189, hy189⟩ : ∃ y_ : List (S34), y_ = (x8_1.set (x9_1 : Int).toNat (⟨(rd_T34 x8_1 x9_1).f0, (rd_T34 x8_1 x9_1).f1, (rd_T34 x8_1 x9_1).f2, (rd_T34 x8_1 x9_1).f3, 0, (rd_T34 x8_1 x9_1).f5⟩ : S34)) := ⟨_, rfl⟩
                  replace H : (some ((y189.set (x9_1 : Int).toNat (⟨(rd_T34 y189 x9_1).f0, (rd_T34 y189 x9_1).f1, (rd_T34 y189 x9_1).f2, (rd_T34 y189 x9_1).f3, (rd_T34 y189 x9_1).f4, a2⟩ : S34)), 0)) = some (r1, r2) := by first | (rw [hy189]; with_reducible exact H) | (have H2_ := (Option.bind_some _ _).symm.trans H; rw [hy189]; with_reducible exact H2_) | (have H2_ := (Option.bind_some _ _).symm.trans H; with_reducible exact H2_) | with_reducible exact H | (rw [hy189]; exact H) | exact H
                  have Ny189 := Aside0.mk hy189
                  clear hy189
                  obtain ⟨y190, hy190⟩ : ∃ y_ : List (S34), y_ = (y189.set (x9_1 : Int).toNat (⟨(rd_T34 y189 x9_1).f0, (rd_T34 y189 x9_1).f1, (rd_T34 y189 x9_1).f2, (rd_T34 y189 x9_1).f3, (rd_T34 y189 x9_1).f4, a2⟩ : S34)) := ⟨_, rfl⟩
                  replace H : (some (y190, 0)) = some (r1, r2) := by first | (rw [hy190]; with_reducible exact H) | (have H2_ := (Option.bind_some _ _).symm.trans H; rw [hy190]; with_reducible exact H2_) | (have H2_ := (Option.bind_some _ _).symm.trans H; with_reducible exact H2_) | with_reducible exact H | (rw [hy190]; exact H) | exact H
                  have Ny190 := Aside0.mk hy190
                  clear hy190
                  simp only [Option.some.injEq, Prod.mk.injEq] at H
                  obtain ⟨rfl, rfl⟩ := H
                  obtain ⟨Ao17, co17, eo17⟩ := Kd.S_slice HO_8.out
                  subst eo17
                  have p187 : 0 ≤ (x9_1 : Int) := of_decide_eq_true (by first | (with_reducible assumption) | assumption)
                  have q187 : x9_1 < (x8_1.length : Int) := of_decide_eq_true (by first | (with_reducible assumption) | assumption)
                  obtain ⟨ad187, A187_1, c187_1, A187_2, c187_2, e187, hx187_0, hx187_1, hx187_2, hx187_3, hx187_4, hx187_5, hl187_1, hi187_1, hl187_2, hi187_2⟩ := at_T34 (Kd.S_reads' HO_8.out).2.2 x9_1 p187 q187
                  cases e187
                  obtain ⟨ce187, hce187, hMe187, hcc187⟩ := Kd.S_get HO_8.out z34 x9_1 p187 (by first | exact q187 | exact of_decide_eq_true (by first | (with_reducible assumption) | assumption) | (have e_ := (Kd.S_reads' HO_8.out).1; omega))
                  obtain ⟨ve187_1, ve187_2, rfl, ge187_1, ge187_2⟩ := k34_openM hMe187
                  have hv187_1 := hcc187 1 _ rfl
                  rw [add_field _ _ 1 (by omega)] at hv187_1
                  replace hv187_1 := Option.some.inj (hv187_1.symm.trans hx187_1)
                  rw [hv187_1] at ge187_1
                  have HL187_1 := Aside0.mk (show Kd.R (Kd.int .i64) 3 _ _ _ _ ((rd_T34 x8_1 x9_1).f1) from ge187_1)
                  clear hv187_1 ge187_1
                  have hv187_2 := hcc187 2 _ rfl
                  rw [add_field _ _ 2 (by omega)] at hv187_2
                  replace hv187_2 := Option.some.inj (hv187_2.symm.trans hx187_2)
                  rw [hv187_2] at ge187_2
                  have HL187_2 := Aside0.mk (show Kd.R (Kd.int .i64) 3 _ _ _ _ ((rd_T34 x8_1 x9_1).f2) from ge187_2)
                  clear hv187_2 ge187_2
                  clear hcc187 hce187
                  have HR187_1 := Aside0.mk hi187_1
                  have HC187_1 := Aside0.mk hl187_1
                  clear hi187_1 hl187_1
                  have HR187_2 := Aside0.mk hi187_2
                  have HC187_2 := Aside0.mk hl187_2
                  clear hi187_2 hl187_2
                  replace p187 := eq_true p187
                  replace q187 := eq_true q187
                  have p188 : 0 ≤ (x9_1 : Int) := of_decide_eq_true (by first | (with_reducible assumption) | assumption)
                  have q188 : x9_1 < (x8_1.length : Int) := of_decide_eq_true (by first | (with_reducible assumption) | assumption)
                  obtain ⟨ad188, A188_1, c188_1, A188_2, c188_2, e188, hx188_0, hx188_1, hx188_2, hx188_3, hx188_4, hx188_5, hl188_1, hi188_1, hl188_2, hi188_2⟩ := at_T34 (Kd.S_reads' HO_8.out).2.2 x9_1 p188 q188
                  obtain rfl : ad187 = ad188 := (by injection e188)
                  obtain ⟨ce188, hce188, hMe188, hcc188⟩ := Kd.S_get HO_8.out z34 x9_1 p188 (by first | exact q188 | exact of_decide_eq_true (by first | (with_reducible assumption) | assumption) | (have e_ := (Kd.S_reads' HO_8.out).1; omega))
                  obtain ⟨ve188_1, ve188_2, rfl, ge188_1, ge188_2⟩ := k34_openM hMe188
                  have hv188_1 := hcc188 1 _ rfl
                  rw [add_field _ _ 1 (by omega)] at hv188_1
                  replace hv188_1 := Option.some.inj (hv188_1.symm.trans hx188_1)
                  rw [hv188_1] at ge188_1
                  have HL188_1 := Aside0.mk (show Kd.R (Kd.int .i64) 3 _ _ _ _ ((rd_T34 x8_1 x9_1).f1) from ge188_1)
                  clear hv188_1 ge188_1
                  have hv188_2 := hcc188 2 _ rfl
                  rw [add_field _ _ 2 (by omega)] at hv188_2
                  replace hv188_2 := Option.some.inj (hv188_2.symm.trans hx188_2)
                  rw [hv188_2] at ge188_2
                  have HL188_2 := Aside0.mk (show Kd.R (Kd.int .i64) 3 _ _ _ _ ((rd_T34 x8_1 x9_1).f2) from ge188_2)
                  clear hv188_2 ge188_2
                  clear hcc188 hce188
                  have HR188_1 := Aside0.mk hi188_1
                  have HC188_1 := Aside0.mk hl188_1
                  clear hi188_1 hl188_1
                  have HR188_2 := Aside0.mk hi188_2
                  have HC188_2 := Aside0.mk hl188_2
                  clear hi188_2 hl188_2
                  replace p188 := eq_true p188
                  replace q188 := eq_true q188
                  have ea_ := Option.some.inj (hx187_1.symm.trans hx188_1)
                  injection ea_ with ea_ en_ ec_
                  subst ea_
                  subst ec_
                  clear en_
                  have ea_ := Option.some.inj (hx187_2.symm.trans hx188_2)
                  injection ea_ with ea_ en_ ec_
                  subst ea_
                  subst ec_
                  clear en_
                  have p15 : 0 ≤ (x9_1 : Int) := of_decide_eq_true (by first | (with_reducible assumption) | assumption)
                  have q15 : (x9_1 : Int) < ((x8_1.length : Int) : Int) := of_decide_eq_true (by first | (with_reducible assumption) | assumption)
                  obtain ⟨go15, co15, eo15, gb15, gl15, cl15, HG15⟩ := Kd.S_form HO_8.out (by omega)
                  (first | cases eo15 | (injection eo15 with ea_ en_ ec_; (first | subst ea_ | (injection ea_ with ea_; subst ea_)); subst ec_; clear en_))
                  have GB15 := Aside0.mk gb15
                  have GG15 := Aside0.mk HG15
                  clear gb15 gl15 HG15
                  (first | simp only [add_plain] at hx187_0 | skip)
                  (first | simp only [add_plain] at hx187_1 | skip)
                  (first | simp only [add_plain] at hx187_2 | skip)
                  (first | simp only [add_plain] at hx187_3 | skip)
                  (first | simp only [add_plain] at hx187_4 | skip)
                  (first | simp only [add_plain] at hx187_5 | skip)
                  (first | simp only [add_plain] at hx188_0 | skip)
                  (first | simp only [add_plain] at hx188_1 | skip)
                  (first | simp only [add_plain] at hx188_2 | skip)
                  (first | simp only [add_plain] at hx188_3 | skip)
                  (first | simp only [add_plain] at hx188_4 | skip)
                  (first | simp only [add_plain] at hx188_5 | skip)
                  obtain ⟨_, ce15, hcl15, hM15, hcc15, hfr15, _, _⟩ := Kd.S_elem HO_8.out z34 (x9_1 : Int) p15 q15
                  obtain ⟨ve15_1, ve15_2, rfl, ge15_1, ge15_2⟩ := k34_openM hM15
                  have hx15_0 : wr.cell? ⟨go15, (x9_1 : Int).toNat * 6, none⟩ = some (.int .i64 ((rd_T34 x8_1 x9_1).f0)) := hcc15 0 _ rfl
                  have hx15_1 : wr.cell? ⟨go15, (x9_1 : Int).toNat * 6 + 1, none⟩ = some (ve15_1) := hcc15 1 _ rfl
                  have hx15_2 : wr.cell? ⟨go15, (x9_1 : Int).toNat * 6 + 2, none⟩ = some (ve15_2) := hcc15 2 _ rfl
                  have hx15_3 : wr.cell? ⟨go15, (x9_1 : Int).toNat * 6 + 3, none⟩ = some (.int .i64 ((rd_T34 x8_1 x9_1).f3)) := hcc15 3 _ rfl
                  have hx15_4 : wr.cell? ⟨go15, (x9_1 : Int).toNat * 6 + 4, none⟩ = some (.int .i64 ((rd_T34 x8_1 x9_1).f4)) := hcc15 4 _ rfl
                  have hx15_5 : wr.cell? ⟨go15, (x9_1 : Int).toNat * 6 + 5, none⟩ = some (.int .i64 ((rd_T34 x8_1 x9_1).f5)) := hcc15 5 _ rfl
                  have hf15_0 : wr.frozen? ⟨go15, (x9_1 : Int).toNat * 6, none⟩ = false := hfr15 0
                  have hf15_1 : wr.frozen? ⟨go15, (x9_1 : Int).toNat * 6 + 1, none⟩ = false := hfr15 1
                  have hf15_2 : wr.frozen? ⟨go15, (x9_1 : Int).toNat * 6 + 2, none⟩ = false := hfr15 2
                  have hf15_3 : wr.frozen? ⟨go15, (x9_1 : Int).toNat * 6 + 3, none⟩ = false := hfr15 3
                  have hf15_4 : wr.frozen? ⟨go15, (x9_1 : Int).toNat * 6 + 4, none⟩ = false := hfr15 4
                  have hf15_5 : wr.frozen? ⟨go15, (x9_1 : Int).toNat * 6 + 5, none⟩ = false := hfr15 5
                  clear hcl15 hcc15 hfr15 hM15
                  replace p15 := eq_true p15
                  replace q15 := eq_true q15
                  have HX18 := Aside0.mk (show Kd.S k34 34 wr w.heap.size (fun k_ => ((fun _ => True)) k_ ∧ ¬ ((fun _ => False)) k_) (.slice (some ⟨go15, 0, none⟩) x8_1.length co17) x8_1 from (by (with_reducible repeat (first | apply Kd.S_alloc | apply Kd.S_drewN | apply Kd.S_drew)); exact Kd.S_mono HO_8.out (fun k_ hk => ⟨trivial, fun e_ => e_⟩)))
                  obtain ⟨oki18, ce18, hcl18, hM18, hcc18, hfr18, hoki18, hH18⟩ := Kd.S_elem HX18.out z34 (x9_1 : Int) (of_decide_eq_true (by first | (with_reducible assumption) | assumption)) (by have h_ : (x9_1 : Int) < ((x8_1.length : Int) : Int) := of_decide_eq_true (by first | (with_reducible assumption) | assumption); first | exact h_ | (have e_ := (Kd.S_reads' HO_8.out).1; omega) | simpa using h_)
                  obtain ⟨ve18_1, ve18_2, rfl, ge18_1, ge18_2⟩ := k34_openM hM18
                  have HP18 := Kd.S_seg hH18 (of_decide_eq_true (by first | (with_reducible assumption) | assumption)) (by have h_ : (x9_1 : Int) < ((x8_1.length : Int) : Int) := of_decide_eq_true (by first | (with_reducible assumption) | assumption); first | exact h_ | (have e_ := (Kd.S_reads' HO_8.out).1; omega) | simpa using h_) (seg := [.int .i64 0]) (j := 4) (show 5 ≤ 6 from by decide) (x' := (⟨(rd_T34 x8_1 x9_1).f0, (rd_T34 x8_1 x9_1).f1, (rd_T34 x8_1 x9_1).f2, (rd_T34 x8_1 x9_1).f3, 0, (rd_T34 x8_1 x9_1).f5⟩ : S34)) (k34_mkM _ _ _ (⟨(rd_T34 x8_1 x9_1).f0, (rd_T34 x8_1 x9_1).f1, (rd_T34 x8_1 x9_1).f2, (rd_T34 x8_1 x9_1).f3, 0, (rd_T34 x8_1 x9_1).f5⟩ : S34) (Kd.R_mono ge18_1 (fun _ h_ => Or.inl h_)) (Kd.R_mono ge18_2 (fun _ h_ => Or.inl h_))) (fun _ hk => hk) (fun k_ hk_ => hk_.elim)
                  have hx18_4 := hcc18 4 _ rfl
                  (try simp only [show (k34).sz = 6 from rfl, Nat.mul_one, Nat.add_zero] at hx18_4)
                  have hf18_4 := hfr18 4
                  (try simp only [show (k34).sz = 6 from rfl, Nat.mul_one, Nat.add_zero] at hf18_4)
                  clear hcl18 hcc18 hfr18 hM18 hoki18 hH18
                  go_wp2_with (first | ((with_reducible refine gate_store (t := 3) (p := 43) rfl ?_); refine store_event (t := 3) (p := 43) (v := ?vo_w19) (w1 := (wr.setCell ⟨go15, (x9_1 : Int).toNat * 6 + 4, none⟩ (.int .i64 0))) ?hg ?ho ?hn ?hr ?_; (case ho => rfl); (case hg => rfl); (case hn => rfl); (case hr => first | (go_simp; done) | (go_simp; rfl)); intro w19 hw; have hg : wr.grownBy w19 (some go15) := (by rw [hw]; exact HP18.2); have hp_ : Kd.S k34 34 w19 w.heap.size (fun _ => True) (.slice (some ⟨go15, 0, none⟩) x8_1.length co17) y189 := (by rw [hw, Ny189.out]; exact HP18.1); clear HP18; have n0_ := Aside0.mk (hp_); have n1_ := Aside0.mk (Kd.R_after (v := (.slice (some ⟨go15, 0, none⟩) x8_1.length co17)) (v1 := (.slice (some ⟨go15, 0, none⟩) x8_1.length co17)) (ok := (fun _ => True)) (by (with_reducible repeat (first | apply Kd.R_alloc | apply Kd.R_drewN | apply Kd.R_drew)); exact HL187_1.out) hg (.inl rfl)); have n2_ := Aside0.mk (Kd.R_after (v := (.slice (some ⟨go15, 0, none⟩) x8_1.length co17)) (v1 := (.slice (some ⟨go15, 0, none⟩) x8_1.length co17)) (ok := (fun _ => True)) (by (with_reducible repeat (first | apply Kd.R_alloc | apply Kd.R_drewN | apply Kd.R_drew)); exact HL187_2.out) hg (.inl rfl)); have n3_ := Aside0.mk (Kd.R_after (v := (.slice (some ⟨go15, 0, none⟩) x8_1.length co17)) (v1 := (.slice (some ⟨go15, 0, none⟩) x8_1.length co17)) (ok := (fun _ => True)) (by (with_reducible repeat (first | apply Kd.R_alloc | apply Kd.R_drewN | apply Kd.R_drew)); exact HL188_1.out) hg (.inl rfl)); have n4_ := Aside0.mk (Kd.R_after (v := (.slice (some ⟨go15, 0, none⟩) x8_1.length co17)) (v1 := (.slice (some ⟨go15, 0, none⟩) x8_1.length co17)) (ok := (fun _ => True)) (by (with_reducible repeat (first | apply Kd.R_alloc | apply Kd.R_drewN | apply Kd.R_drew)); exact HL188_2.out) hg (.inl rfl)); have n5_ := Aside0.mk ((by rw [hw]; exact below_set (HB.out) GB15.out : Below w.heap.size w w19)); clear HO_8; clear HL187_1; clear HL187_2; clear HL188_1; clear HL188_2; clear HB; have HO_8 := n0_; have HL187_1 := n1_; have HL187_2 := n2_; have HL188_1 := n3_; have HL188_2 := n4_; have HB := n5_; clear n0_ n1_ n2_ n3_ n4_ n5_; clear hg hw hp_; have p16 : 0 ≤ (x9_1 : Int) := of_decide_eq_true (by first | (with_reducible assumption) | assumption); have q16 : (x9_1 : Int) < ((x8_1.length : Int) : Int) := of_decide_eq_true (by first | (with_reducible assumption) | assumption); obtain ⟨_, ce16, hcl16, hM16, hcc16, hfr16, _, _⟩ := Kd.S_elem HO_8.out z34 (x9_1 : Int) p16 q16; obtain ⟨ve16_1, ve16_2, rfl, ge16_1, ge16_2⟩ := k34_openM hM16; have hx16_0 : w19.cell? ⟨go15, (x9_1 : Int).toNat * 6, none⟩ = some (.int .i64 ((rd_T34 y189 x9_1).f0)) := hcc16 0 _ rfl; have hx16_1 : w19.cell? ⟨go15, (x9_1 : Int).toNat * 6 + 1, none⟩ = some (ve16_1) := hcc16 1 _ rfl; have hx16_2 : w19.cell? ⟨go15, (x9_1 : Int).toNat * 6 + 2, none⟩ = some (ve16_2) := hcc16 2 _ rfl; have hx16_3 : w19.cell? ⟨go15, (x9_1 : Int).toNat * 6 + 3, none⟩ = some (.int .i64 ((rd_T34 y189 x9_1).f3)) := hcc16 3 _ rfl; have hx16_4 : w19.cell? ⟨go15, (x9_1 : Int).toNat * 6 + 4, none⟩ = some (.int .i64 ((rd_T34 y189 x9_1).f4)) := hcc16 4 _ rfl; have hx16_5 : w19.cell? ⟨go15, (x9_1 : Int).toNat * 6 + 5, none⟩ = some (.int .i64 ((rd_T34 y189 x9_1).f5)) := hcc16 5 _ rfl; have hf16_0 : w19.frozen? ⟨go15, (x9_1 : Int).toNat * 6, none⟩ = false := hfr16 0; have hf16_1 : w19.frozen? ⟨go15, (x9_1 : Int).toNat * 6 + 1, none⟩ = false := hfr16 1; have hf16_2 : w19.frozen? ⟨go15, (x9_1 : Int).toNat * 6 + 2, none⟩ = false := hfr16 2; have hf16_3 : w19.frozen? ⟨go15, (x9_1 : Int).toNat * 6 + 3, none⟩ = false := hfr16 3; have hf16_4 : w19.frozen? ⟨go15, (x9_1 : Int).toNat * 6 + 4, none⟩ = false := hfr16 4; have hf16_5 : w19.frozen? ⟨go15, (x9_1 : Int).toNat * 6 + 5, none⟩ = false := hfr16 5; clear hcl16 hcc16 hfr16 hM16; replace p16 := eq_true p16; replace q16 := eq_true q16; have HX20 := Aside0.mk (show Kd.S k34 34 w19 w.heap.size (fun k_ => ((fun _ => True)) k_ ∧ ¬ ((fun _ => False)) k_) (.slice (some ⟨go15, 0, none⟩) x8_1.length co17) y189 from (by (with_reducible repeat (first | apply Kd.S_alloc | apply Kd.S_drewN | apply Kd.S_drew)); exact Kd.S_mono HO_8.out (fun k_ hk => ⟨trivial, fun e_ => e_⟩))); obtain ⟨oki20, ce20, hcl20, hM20, hcc20, hfr20, hoki20, hH20⟩ := Kd.S_elem HX20.out z34 (x9_1 : Int) (of_decide_eq_true (by first | (with_reducible assumption) | assumption)) (by have h_ : (x9_1 : Int) < ((x8_1.length : Int) : Int) := of_decide_eq_true (by first | (with_reducible assumption) | assumption); first | exact h_ | (have e_ := (Kd.S_reads' HO_8.out).1; omega) | simpa using h_); obtain ⟨ve20_1, ve20_2, rfl, ge20_1, ge20_2⟩ := k34_openM hM20; have HP20 := Kd.S_seg hH20 (of_decide_eq_true (by first | (with_reducible assumption) | assumption)) (by have h_ : (x9_1 : Int) < ((x8_1.length : Int) : Int) := of_decide_eq_true (by first | (with_reducible assumption) | assumption); first | exact h_ | (have e_ := (Kd.S_reads' HO_8.out).1; omega) | simpa using h_) (seg := [.int .i64 a2]) (j := 5) (show 6 ≤ 6 from by decide) (x' := (⟨(rd_T34 y189 x9_1).f0, (rd_T34 y189 x9_1).f1, (rd_T34 y189 x9_1).f2, (rd_T34 y189 x9_1).f3, (rd_T34 y189 x9_1).f4, a2⟩ : S34)) (k34_mkM _ _ _ (⟨(rd_T34 y189 x9_1).f0, (rd_T34 y189 x9_1).f1, (rd_T34 y189 x9_1).f2, (rd_T34 y189 x9_1).f3, (rd_T34 y189 x9_1).f4, a2⟩ : S34) (Kd.R_mono ge20_1 (fun _ h_ => Or.inl h_)) (Kd.R_mono ge20_2 (fun _ h_ => Or.inl h_))) (fun _ hk => hk) (fun k_ hk_ => hk_.elim); have hx20_5 := hcc20 5 _ rfl; (try simp only [show (k34).sz = 6 from rfl, Nat.mul_one, Nat.add_zero] at hx20_5); have hf20_5 := hfr20 5; (try simp only [show (k34).sz = 6 from rfl, Nat.mul_one, Nat.add_zero] at hf20_5); clear hcl20 hcc20 hfr20 hM20 hoki20 hH20) | ((with_reducible refine gate_store (t := 3) (p := 48) rfl ?_); refine store_event (t := 3) (p := 48) (v := ?vo_w21) (w1 := (w19.setCell ⟨go15, (x9_1 : Int).toNat * 6 + 5, none⟩ (.int .i64 a2))) ?hg ?ho ?hn ?hr ?_; (case ho => rfl); (case hg => rfl); (case hn => rfl); (case hr => first | (go_simp; done) | (go_simp; rfl)); intro w21 hw; have hg : w19.grownBy w21 (some go15) := (by rw [hw]; exact HP20.2); have hp_ : Kd.S k34 34 w21 w.heap.size (fun _ => True) (.slice (some ⟨go15, 0, none⟩) x8_1.length co17) y190 := (by rw [hw, Ny190.out]; exact HP20.1); clear HP20; have n0_ := Aside0.mk (hp_); have n1_ := Aside0.mk (Kd.R_after (v := (.slice (some ⟨go15, 0, none⟩) x8_1.length co17)) (v1 := (.slice (some ⟨go15, 0, none⟩) x8_1.length co17)) (ok := (fun _ => True)) (by (with_reducible repeat (first | apply Kd.R_alloc | apply Kd.R_drewN | apply Kd.R_drew)); exact HL187_1.out) hg (.inl rfl)); have n2_ := Aside0.mk (Kd.R_after (v := (.slice (some ⟨go15, 0, none⟩) x8_1.length co17)) (v1 := (.slice (some ⟨go15, 0, none⟩) x8_1.length co17)) (ok := (fun _ => True)) (by (with_reducible repeat (first | apply Kd.R_alloc | apply Kd.R_drewN | apply Kd.R_drew)); exact HL187_2.out) hg (.inl rfl)); have n3_ := Aside0.mk (Kd.R_after (v := (.slice (some ⟨go15, 0, none⟩) x8_1.length co17)) (v1 := (.slice (some ⟨go15, 0, none⟩) x8_1.length co17)) (ok := (fun _ => True)) (by (with_reducible repeat (first | apply Kd.R_alloc | apply Kd.R_drewN | apply Kd.R_drew)); exact HL188_1.out) hg (.inl rfl)); have n4_ := Aside0.mk (Kd.R_after (v := (.slice (some ⟨go15, 0, none⟩) x8_1.length co17)) (v1 := (.slice (some ⟨go15, 0, none⟩) x8_1.length co17)) (ok := (fun _ => True)) (by (with_reducible repeat (first | apply Kd.R_alloc | apply Kd.R_drewN | apply Kd.R_drew)); exact HL188_2.out) hg (.inl rfl)); have n5_ := Aside0.mk ((by rw [hw]; exact below_set (HB.out) GB15.out : Below w.heap.size w w21)); clear HO_8; clear HL187_1; clear HL187_2; clear HL188_1; clear HL188_2; clear HB; have HO_8 := n0_; have HL187_1 := n1_; have HL187_2 := n2_; have HL188_1 := n3_; have HL188_2 := n4_; have HB := n5_; clear n0_ n1_ n2_ n3_ n4_ n5_; clear hg hw hp_))
                  go_ret2
                  exact ⟨_, by first | rfl | (simp [errW_none, errW_some] <;> rfl) | (simp [*, errW_none, errW_some] <;> rfl), by (with_reducible repeat (first | apply Kd.S_alloc | apply Kd.S_drewN | apply Kd.S_drew)); exact HO_8.out, by repeat (first | (with_reducible first | exact HB.out | apply below_alloc | apply pw_below_drewN | apply below_drew1) | exact HB.out)⟩
          · rw [if_neg c8] at H
            have c8b0 : (((rd_T34 x8_1 x9_1).f0) == a1) = false := beq_eq_false_iff_ne.mpr c8
            have c8b1 : (((rd_T34 x8_1 x9_1).f0) != a1) = true := bne_iff_ne.mpr c8
            have H' := Aside0.mk H
            clear H
            obtain ⟨Ao22, co22, eo22⟩ := Kd.S_slice HO_8.out
            subst eo22
            have p187 : 0 ≤ (x9_1 : Int) := of_decide_eq_true (by first | (with_reducible assumption) | assumption)
            have q187 : x9_1 < (x8_1.length : Int) := of_decide_eq_true (by first | (with_reducible assumption) | assumption)
            obtain ⟨ad187, A187_1, c187_1, A187_2, c187_2, e187, hx187_0, hx187_1, hx187_2, hx187_3, hx187_4, hx187_5, hl187_1, hi187_1, hl187_2, hi187_2⟩ := at_T34 (Kd.S_reads' HO_8.out).2.2 x9_1 p187 q187
            cases e187
            obtain ⟨ce187, hce187, hMe187, hcc187⟩ := Kd.S_get HO_8.out z34 x9_1 p187 (by first | exact q187 | exact of_decide_eq_true (by first | (with_reducible assumption) | assumption) | (have e_ := (Kd.S_reads' HO_8.out).1; omega))
            obtain ⟨ve187_1, ve187_2, rfl, ge187_1, ge187_2⟩ := k34_openM hMe187
            have hv187_1 := hcc187 1 _ rfl
            rw [add_field _ _ 1 (by omega)] at hv187_1
            replace hv187_1 := Option.some.inj (hv187_1.symm.trans hx187_1)
            rw [hv187_1] at ge187_1
            have HL187_1 := Aside0.mk (show Kd.R (Kd.int .i64) 3 _ _ _ _ ((rd_T34 x8_1 x9_1).f1) from ge187_1)
            clear hv187_1 ge187_1
            have hv187_2 := hcc187 2 _ rfl
            rw [add_field _ _ 2 (by omega)] at hv187_2
            replace hv187_2 := Option.some.inj (hv187_2.symm.trans hx187_2)
            rw [hv187_2] at ge187_2
            have HL187_2 := Aside0.mk (show Kd.R (Kd.int .i64) 3 _ _ _ _ ((rd_T34 x8_1 x9_1).f2) from ge187_2)
            clear hv187_2 ge187_2
            clear hcc187 hce187
            have HR187_1 := Aside0.mk hi187_1
            have HC187_1 := Aside0.mk hl187_1
            clear hi187_1 hl187_1
            have HR187_2 := Aside0.mk hi187_2
            have HC187_2 := Aside0.mk hl187_2
            clear hi187_2 hl187_2
            replace p187 := eq_true p187
            replace q187 := eq_true q187
            go_wp2
            go_roundg k1
            case measure => have := HK1.out; omega
            case rel => exact ⟨(x8_1), (wrap64 (x9_1 + 1)), (by first | rfl | (simp; done) | (simp [*]; done)), H', ⟨by have := HK1.out; omega⟩, ⟨by (with_reducible repeat (first | apply Kd.S_alloc | apply Kd.S_drewN | apply Kd.S_drew)); exact HO_8.out⟩, ⟨by repeat (first | (with_reducible first | exact HB.out | apply below_alloc | apply pw_below_drewN | apply below_drew1) | exact HB.out)⟩⟩
        · rw [if_neg c7] at H
          exact absurd H (by simp)
      · rw [if_neg c6] at H
        have c6b0 : decide (x9_1 < (x8_1.length : Int)) = false := decide_eq_false c6
        clear c6
        simp only [Option.some.injEq, Prod.mk.injEq] at H
        obtain ⟨rfl, rfl⟩ := H
        obtain ⟨Ao23, co23, eo23⟩ := Kd.S_slice HO_8.out
        subst eo23
        go_wp2
        go_ret2
        exact ⟨_, by first | rfl | (simp [errW_none, errW_some] <;> rfl) | (simp [*, errW_none, errW_some] <;> rfl), by first | exact Kd.S_nil _ _ _ _ _ | exact Kd.N_nil _ _ _ _ _ | exact Kd.V_nil _ _ _ _ _ | exact Kd.Q_nil _ _ _ _ _ | exact Kd.R_nil _ _ _ _ _, by repeat (first | (with_reducible first | exact HB.out | apply below_alloc | apply pw_below_drewN | apply below_drew1) | exact HB.out)⟩

end Go.Proofs.Ytfjnpdgjigkbcaa.PAll
