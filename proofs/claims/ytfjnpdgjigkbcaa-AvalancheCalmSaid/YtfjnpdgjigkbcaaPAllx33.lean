/- What each of these functions computes, and its contract over the machine: printed by a program out of the translation. No condition but those that each theorem states. -/
import Derived.Test.YtfjnpdgjigkbcaaPAllx0
import Derived.Test.YtfjnpdgjigkbcaaPAllx3
import Derived.Test.YtfjnpdgjigkbcaaPAllx5
import Derived.Test.YtfjnpdgjigkbcaaPAllx14
import Derived.Test.YtfjnpdgjigkbcaaPAllx17
import Derived.Test.YtfjnpdgjigkbcaaPAllx21
import Derived.Test.YtfjnpdgjigkbcaaPAllx23
import Derived.Test.YtfjnpdgjigkbcaaGAlive
namespace Go.Proofs.Ytfjnpdgjigkbcaa.PAll
open Go.RowKit Go.Proofs.YtfjnpdgjigkbcaaW.PrintWords Go.Proofs.YtfjnpdgjigkbcaaW.PrintLast Go.Proofs.YtfjnpdgjigkbcaaW.PrintMore
attribute [local go_sem] max2_int min2_int max_two min_two max_three min_three max_four min_four   -- for this text's walks alone
set_option linter.unusedVariables false
set_option linter.unusedSimpArgs false

/-! ### skiarealaw50_AvalancheCalm: function 8 -/
def skiarealaw50_AvalancheCalm.l0 : Nat → List (S34) → Int → Int → List Int → List (S34) → Int → Int → Option (Bool)
  | 0, _, _, _, _, _, _, _ => none
  | k + 1, x0, x1, x2, x3, x9, x11, x12 => if x12 < (x0.length : Int) then (if 0 ≤ x12 then (if ((rd_T34 x0 x12).f0) = x1 then (if x12 < (x9.length : Int) then (if ((rd_T34 x9 x12).f4) = 0 then (if ((rd_T34 x9 x12).f5) = x2 then ((avalanche_Unstable.f k ((rd_T34 x9 x12).f0) ((rd_T34 x9 x12).f1) ((rd_T34 x9 x12).f2) ((rd_T34 x9 x12).f3) ((rd_T34 x9 x12).f4) ((rd_T34 x9 x12).f5) x3).bind fun t330 => ((avalanche_Level.f k ((rd_T34 x0 x12).f0) ((rd_T34 x0 x12).f1) ((rd_T34 x0 x12).f2) ((rd_T34 x0 x12).f3) ((rd_T34 x0 x12).f4) ((rd_T34 x0 x12).f5) x3).bind fun t332 => (if (t330 != (decide (t332 > 4))) = true then (none) else (skiarealaw50_AvalancheCalm.l0 k x0 x1 x2 x3 x9 (wrap64 (x11 + 1)) (wrap64 (x12 + 1)))))) else (none)) else (none)) else (none)) else (if x12 < (x9.length : Int) then ((skiarearef50_SameOne.f k ((rd_T34 x9 x12).f0) ((rd_T34 x9 x12).f1) ((rd_T34 x9 x12).f2) ((rd_T34 x9 x12).f3) ((rd_T34 x9 x12).f4) ((rd_T34 x9 x12).f5) ((rd_T34 x0 x12).f0) ((rd_T34 x0 x12).f1) ((rd_T34 x0 x12).f2) ((rd_T34 x0 x12).f3) ((rd_T34 x0 x12).f4) ((rd_T34 x0 x12).f5)).bind fun t335 => (if t335 = true then (skiarealaw50_AvalancheCalm.l0 k x0 x1 x2 x3 x9 x11 (wrap64 (x12 + 1))) else (none))) else (none))) else (none)) else (some (x11 == 1))
def skiarealaw50_AvalancheCalm.f (k : Nat) (l0 : List (S34)) (a1 : Int) (a2 : Int) (l3 : List Int) : Option (Bool) := (skiarealaw50_alive.f).bind fun t318 => (if t318 = true then ((skiarealaw50_small.f k l0).bind fun t319 => (if t319 = true then ((avalanche_Right.f k l0).bind fun t320 => (if t320 = 0 then (if (l3.length : Int) > 100 then (some true) else ((avalanche_Control.f l0 a1 a2).bind fun bt321 => (if bt321.2 = 0 then (if (bt321.1.length : Int) = (l0.length : Int) then ((avalanche_Right.f k bt321.1).bind fun t325 => (if t325 = 0 then (skiarealaw50_AvalancheCalm.l0 k l0 a1 a2 l3 bt321.1 0 0) else (none))) else (none)) else (some ((bt321.1.length : Int) == 0))))) else (some true))) else (some true))) else (none))
theorem skiarealaw50_AvalancheCalm.mono_l : ∀ k, (∀ y0 y1 y2 y3 y4 y5 y6, LeO (skiarealaw50_AvalancheCalm.l0 k y0 y1 y2 y3 y4 y5 y6) (skiarealaw50_AvalancheCalm.l0 (k + 1) y0 y1 y2 y3 y4 y5 y6))
  | 0 => fun _ _ _ _ _ _ _ r h => by simp [skiarealaw50_AvalancheCalm.l0] at h
  | k + 1 => by
    have ih0 := skiarealaw50_AvalancheCalm.mono_l k
    · intro y0 y1 y2 y3 y4 y5 y6
      unfold skiarealaw50_AvalancheCalm.l0
      repeat' first
      | (with_reducible exact ih0 _ _ _ _ _ _ _)
      | (with_reducible exact avalanche_Level.mono _ _ _ _ _ _ _ _)
      | (with_reducible exact avalanche_Right.mono _ _)
      | (with_reducible exact avalanche_Unstable.mono _ _ _ _ _ _ _ _)
      | (with_reducible exact skiarealaw50_small.mono _ _)
      | (with_reducible exact skiarearef50_SameOne.mono _ _ _ _ _ _ _ _ _ _ _ _ _)
      | (with_reducible exact LeO.refl _)
      | (with_reducible exact LeO.none _)
      | (with_reducible refine LeO.ite ?_ ?_)
      | (with_reducible refine LeO.bind ?_ (fun _ => ?_))
      | exact ih0 _ _ _ _ _ _ _
      | exact avalanche_Level.mono _ _ _ _ _ _ _ _
      | exact avalanche_Right.mono _ _
      | exact avalanche_Unstable.mono _ _ _ _ _ _ _ _
      | exact skiarealaw50_small.mono _ _
      | exact skiarearef50_SameOne.mono _ _ _ _ _ _ _ _ _ _ _ _ _
      | exact LeO.none _
      | refine LeO.ite ?_ ?_
      | refine LeO.bind ?_ (fun _ => ?_)
theorem skiarealaw50_AvalancheCalm.mono : ∀ a0 a1 a2 a3 k, LeO (skiarealaw50_AvalancheCalm.f k a0 a1 a2 a3) (skiarealaw50_AvalancheCalm.f (k + 1) a0 a1 a2 a3) := by
  intro a0 a1 a2 a3 k
  have ih0 := skiarealaw50_AvalancheCalm.mono_l k
  unfold skiarealaw50_AvalancheCalm.f
  repeat' first
      | (with_reducible exact ih0 _ _ _ _ _ _ _)
      | (with_reducible exact avalanche_Level.mono _ _ _ _ _ _ _ _)
      | (with_reducible exact avalanche_Right.mono _ _)
      | (with_reducible exact avalanche_Unstable.mono _ _ _ _ _ _ _ _)
      | (with_reducible exact skiarealaw50_small.mono _ _)
      | (with_reducible exact skiarearef50_SameOne.mono _ _ _ _ _ _ _ _ _ _ _ _ _)
      | (with_reducible exact LeO.refl _)
      | (with_reducible exact LeO.none _)
      | (with_reducible refine LeO.ite ?_ ?_)
      | (with_reducible refine LeO.bind ?_ (fun _ => ?_))
      | exact ih0 _ _ _ _ _ _ _
      | exact avalanche_Level.mono _ _ _ _ _ _ _ _
      | exact avalanche_Right.mono _ _
      | exact avalanche_Unstable.mono _ _ _ _ _ _ _ _
      | exact skiarealaw50_small.mono _ _
      | exact skiarearef50_SameOne.mono _ _ _ _ _ _ _ _ _ _ _ _ _
      | exact LeO.none _
      | refine LeO.ite ?_ ?_
      | refine LeO.bind ?_ (fun _ => ?_)
def skiarealaw50_AvalancheCalm.T15 : Bool × List (List Nat × List Nat) := (true, [([], []), ([], []), ([0, 1], [0, 1]), ([2], [2]), ([], []), ([], []), ([4, 5], [4, 5]), ([6], [6]), ([3, 7], [3, 7]), ([8], [8])])
def skiarealaw50_AvalancheCalm.B15 : List Nat := [0, 0, 3, 7, 0, 0, 48, 112, 255, 511]
theorem skiarealaw50_AvalancheCalm.tab15 : rtab .any (opsOf Try.f8 15) = skiarealaw50_AvalancheCalm.T15 := by kernel_rfl
theorem skiarealaw50_AvalancheCalm.bits15 : waitsOk skiarealaw50_AvalancheCalm.T15.2 skiarealaw50_AvalancheCalm.B15 = true := by kernel_rfl
def skiarealaw50_AvalancheCalm.T18 : Bool × List (List Nat × List Nat) := (true, [([], []), ([], []), ([0, 1], [0, 1]), ([2], [2]), ([3], [3]), ([4], [4]), ([5], [5]), ([6], [6]), ([6], [6]), ([7, 8, 6], [6, 7, 8]), ([9, 6], [6, 9]), ([10, 6], [6, 10]), ([6], [6]), ([11, 12, 6], [6, 11, 12]), ([6, 13], [6, 13]), ([14, 6], [14]), ([15], [15]), ([15], [15]), ([16, 17, 15], [15, 16, 17]), ([18, 15], [15, 18]), ([15], [15]), ([19, 20, 15, 15], [15, 19, 20]), ([15], [15]), ([15], [15]), ([22, 23, 15], [15, 22, 23]), ([24, 15], [15, 24]), ([15], [15]), ([25, 26, 21, 15], [15, 25, 26]), ([27, 15], [15, 27]), ([21, 28, 15], [15, 21, 28]), ([15, 29], [15, 29])])
def skiarealaw50_AvalancheCalm.B18 : List Nat := [0, 0, 3, 7, 15, 31, 63, 127, 127, 511, 1023, 2047, 127, 8191, 16383, 32767, 65535, 65535, 262143, 524287, 65535, 2097151, 65535, 65535, 12648447, 29425663, 65535, 134217727, 268435455, 536870911, 1073741823]
theorem skiarealaw50_AvalancheCalm.tab18 : rtab .any (opsOf Try.f8 18) = skiarealaw50_AvalancheCalm.T18 := by kernel_rfl
theorem skiarealaw50_AvalancheCalm.bits18 : waitsOk skiarealaw50_AvalancheCalm.T18.2 skiarealaw50_AvalancheCalm.B18 = true := by kernel_rfl
set_option maxHeartbeats 8000000 in
set_option maxRecDepth 100000 in
theorem skiarealaw50_AvalancheCalm.calls (k : Nat) (A0 : Option Addr) (c0 : Nat) (l0 : List (S34)) (a1 : Int) (a2 : Int) (A3 : Option Addr) (c3 : Nat) (l3 : List Int) (r : Bool) (w : World) (hr0 : Kd.C k34 w A0 l0.length l0) (hc0 : l0.length ≤ c0) (hr3 : Kd.C (Kd.int .i64) w A3 l3.length l3) (hc3 : l3.length ≤ c3) (h : skiarealaw50_AvalancheCalm.f k l0 a1 a2 l3 = some r) :
    Calls Try.prog 8 #[.slice A0 l0.length c0, .int .i64 a1, .int .i64 a2, .slice A3 l3.length c3] w fun e w' => e = .returned (.bool r) ∧ Below w.heap.size w w' := by
  have hu34 := Try.underlying34
  have HR0 := Aside0.mk hr0
  have HC0 := Aside0.mk hc0
  clear hr0 hc0
  have HR3 := Aside0.mk hr3
  have HC3 := Aside0.mk hc3
  clear hr3 hc3
  have HB := Aside0.mk (Below.refl w.heap.size w)
  have H : ((skiarealaw50_alive.f).bind fun t318 => (if t318 = true then ((skiarealaw50_small.f k l0).bind fun t319 => (if t319 = true then ((avalanche_Right.f k l0).bind fun t320 => (if t320 = 0 then (if (l3.length : Int) > 100 then (some true) else ((avalanche_Control.f l0 a1 a2).bind fun bt321 => (if bt321.2 = 0 then (if (bt321.1.length : Int) = (l0.length : Int) then ((avalanche_Right.f k bt321.1).bind fun t325 => (if t325 = 0 then (skiarealaw50_AvalancheCalm.l0 k l0 a1 a2 l3 bt321.1 0 0) else (none))) else (none)) else (some ((bt321.1.length : Int) == 0))))) else (some true))) else (some true))) else (none))) = some r := h
  clear h
  replace H := Option.bind_eq_some_iff.mp H
  obtain ⟨t318, A50, H⟩ := H
  replace H : (if t318 = true then ((skiarealaw50_small.f k l0).bind fun t319 => (if t319 = true then ((avalanche_Right.f k l0).bind fun t320 => (if t320 = 0 then (if (l3.length : Int) > 100 then (some true) else ((avalanche_Control.f l0 a1 a2).bind fun bt321 => (if bt321.2 = 0 then (if (bt321.1.length : Int) = (l0.length : Int) then ((avalanche_Right.f k bt321.1).bind fun t325 => (if t325 = 0 then (skiarealaw50_AvalancheCalm.l0 k l0 a1 a2 l3 bt321.1 0 0) else (none))) else (none)) else (some ((bt321.1.length : Int) == 0))))) else (some true))) else (some true))) else (none)) = some r := H
  have A5 := Aside0.mk A50
  clear A50
  by_cases c6 : t318 = true
  · subst c6
    have H1 : ((skiarealaw50_small.f k l0).bind fun t319 => (if t319 = true then ((avalanche_Right.f k l0).bind fun t320 => (if t320 = 0 then (if (l3.length : Int) > 100 then (some true) else ((avalanche_Control.f l0 a1 a2).bind fun bt321 => (if bt321.2 = 0 then (if (bt321.1.length : Int) = (l0.length : Int) then ((avalanche_Right.f k bt321.1).bind fun t325 => (if t325 = 0 then (skiarealaw50_AvalancheCalm.l0 k l0 a1 a2 l3 bt321.1 0 0) else (none))) else (none)) else (some ((bt321.1.length : Int) == 0))))) else (some true))) else (some true))) = some r := by rw [if_pos rfl] at H; exact H
    clear H
    have H := H1
    clear H1
    replace H := Option.bind_eq_some_iff.mp H
    obtain ⟨t319, A70, H⟩ := H
    replace H : (if t319 = true then ((avalanche_Right.f k l0).bind fun t320 => (if t320 = 0 then (if (l3.length : Int) > 100 then (some true) else ((avalanche_Control.f l0 a1 a2).bind fun bt321 => (if bt321.2 = 0 then (if (bt321.1.length : Int) = (l0.length : Int) then ((avalanche_Right.f k bt321.1).bind fun t325 => (if t325 = 0 then (skiarealaw50_AvalancheCalm.l0 k l0 a1 a2 l3 bt321.1 0 0) else (none))) else (none)) else (some ((bt321.1.length : Int) == 0))))) else (some true))) else (some true)) = some r := H
    have A7 := Aside0.mk A70
    clear A70
    by_cases c8 : t319 = true
    · subst c8
      have H1 : ((avalanche_Right.f k l0).bind fun t320 => (if t320 = 0 then (if (l3.length : Int) > 100 then (some true) else ((avalanche_Control.f l0 a1 a2).bind fun bt321 => (if bt321.2 = 0 then (if (bt321.1.length : Int) = (l0.length : Int) then ((avalanche_Right.f k bt321.1).bind fun t325 => (if t325 = 0 then (skiarealaw50_AvalancheCalm.l0 k l0 a1 a2 l3 bt321.1 0 0) else (none))) else (none)) else (some ((bt321.1.length : Int) == 0))))) else (some true))) = some r := by rw [if_pos rfl] at H; exact H
      clear H
      have H := H1
      clear H1
      replace H := Option.bind_eq_some_iff.mp H
      obtain ⟨t320, A90, H⟩ := H
      replace H : (if t320 = 0 then (if (l3.length : Int) > 100 then (some true) else ((avalanche_Control.f l0 a1 a2).bind fun bt321 => (if bt321.2 = 0 then (if (bt321.1.length : Int) = (l0.length : Int) then ((avalanche_Right.f k bt321.1).bind fun t325 => (if t325 = 0 then (skiarealaw50_AvalancheCalm.l0 k l0 a1 a2 l3 bt321.1 0 0) else (none))) else (none)) else (some ((bt321.1.length : Int) == 0))))) else (some true)) = some r := H
      have A9 := Aside0.mk A90
      clear A90
      by_cases c10 : t320 = 0
      · rw [if_pos c10] at H
        have c10b0 : (t320 == 0) = true := beq_iff_eq.mpr c10
        have c10b1 : (t320 != 0) = false := bne_eq_false_iff_eq.mpr c10
        clear c10
        by_cases c11 : (l3.length : Int) > 100
        · rw [if_pos c11] at H
          have c11b0 : decide (100 < (l3.length : Int)) = true := decide_eq_true c11
          have c11b1 : decide (100 < l3.length) = true := decide_eq_true (by omega)
          clear c11
          obtain rfl := Option.some.inj H
          go_enter Try.func8, Try.ntmps8
          go_wp2_with (first | ((with_reducible refine gate_callee (f := 10) rfl ?_); refine goesL_ (some 13) rfl rfl Try.func10 (by kernel_rfl) rfl #[] rfl (by (try simp only [List.map_toArray, List.map_cons, List.map_nil]); first | done | rfl | (simp only [List.length_drop, List.length_take]; rfl)) ?_; (with_reducible refine (skiarealaw50_alive.calls  true _ A5.out).mono ?_); rintro e w12 ⟨rfl, hb⟩; refine ⟨_, rfl, ?_⟩; have n0_ := Aside0.mk (below_step (by repeat (first | (with_reducible first | exact HB.out | apply below_alloc | apply pw_below_drewN | apply below_drew1) | exact HB.out)) hb); clear HB; have HB := n0_; clear n0_; (try clear hb); (try clear hb2); (try clear hk); (try clear hi)) | ((with_reducible refine gate_callee (f := 11) rfl ?_); refine goesL_ (some 16) rfl rfl Try.func11 (by kernel_rfl) rfl #[.slice A0 l0.length c0] rfl (by (try simp only [List.map_toArray, List.map_cons, List.map_nil]); first | done | rfl | (simp only [List.length_drop, List.length_take]; rfl)) ?_; (with_reducible refine (skiarealaw50_small.calls k _ _ l0 true _ ?side1 ?side2 A7.out).mono ?_); (case side1 => repeat (first | exact (Kd.C_below HR0.out HB.out) | (with_reducible refine Kd.C_alloc ?_ _) | (with_reducible refine Kd.C_drewN ?_ _) | (with_reducible refine Kd.C_drew ?_))); (case side2 => exact HC0.out); rintro e w' ⟨rfl, ⟨nd, rfl⟩⟩; refine ⟨_, rfl, ?_⟩) | (go_at_call 12; (with_reducible refine (avalanche_Right.calls k _ _ l0 t320 _ ?side1 ?side2 A9.out).mono ?_); (case side1 => repeat (first | exact (Kd.C_below HR0.out (by repeat (first | (with_reducible first | exact HB.out | apply below_alloc | apply pw_below_drewN | apply below_drew1) | exact HB.out))) | (with_reducible refine Kd.C_alloc ?_ _) | (with_reducible refine Kd.C_drewN ?_ _) | (with_reducible refine Kd.C_drew ?_))); (case side2 => exact HC0.out); rintro e w13 ⟨rfl, hb⟩; have n0_ := Aside0.mk (below_step (by repeat (first | (with_reducible first | exact HB.out | apply below_alloc | apply pw_below_drewN | apply below_drew1) | exact HB.out)) hb); clear HB; have HB := n0_; clear n0_; (try clear hb); (try clear hb2); (try clear hk); (try clear hi)))
          go_ret
          exact ⟨by first | rfl | (simp [errW_none, errW_some] <;> rfl) | (simp [*, errW_none, errW_some] <;> rfl), by repeat (first | (with_reducible first | exact HB.out | apply below_alloc | apply pw_below_drewN | apply below_drew1) | exact HB.out)⟩
        · rw [if_neg c11] at H
          have c11b0 : decide (100 < (l3.length : Int)) = false := decide_eq_false c11
          have c11b1 : decide (100 < l3.length) = false := decide_eq_false (by omega)
          clear c11
          replace H := Option.bind_eq_some_iff.mp H
          obtain ⟨⟨t321, t322⟩, A140, H⟩ := H
          replace H : (if t322 = 0 then (if (t321.length : Int) = (l0.length : Int) then ((avalanche_Right.f k t321).bind fun t325 => (if t325 = 0 then (skiarealaw50_AvalancheCalm.l0 k l0 a1 a2 l3 t321 0 0) else (none))) else (none)) else (some ((t321.length : Int) == 0))) = some r := H
          have A14 := Aside0.mk A140
          clear A140
          by_cases c15 : t322 = 0
          · rw [if_pos c15] at H
            have c15b0 : (t322 == 0) = true := beq_iff_eq.mpr c15
            have c15b1 : (t322 != 0) = false := bne_eq_false_iff_eq.mpr c15
            clear c15
            by_cases c16 : (t321.length : Int) = (l0.length : Int)
            · rw [if_pos c16] at H
              have c16b0 : ((t321.length : Int) == (l0.length : Int)) = true := beq_iff_eq.mpr c16
              have c16b1 : ((t321.length : Int) != (l0.length : Int)) = false := bne_eq_false_iff_eq.mpr c16
              have c16b2 : (t321.length == l0.length) = true := by first | simpa using c16 | (simp at c16 ⊢; omega)
              clear c16
              replace H := Option.bind_eq_some_iff.mp H
              obtain ⟨t325, A170, H⟩ := H
              replace H : (if t325 = 0 then (skiarealaw50_AvalancheCalm.l0 k l0 a1 a2 l3 t321 0 0) else (none)) = some r := H
              have A17 := Aside0.mk A170
              clear A170
              by_cases c18 : t325 = 0
              · rw [if_pos c18] at H
                have c18b0 : (t325 == 0) = true := beq_iff_eq.mpr c18
                have c18b1 : (t325 != 0) = false := bne_eq_false_iff_eq.mpr c18
                clear c18
                have H' := Aside0.mk H
                clear H
                go_enter Try.func8, Try.ntmps8
                go_wp2_with (first | ((with_reducible refine gate_callee (f := 10) rfl ?_); refine goesL_ (some 13) rfl rfl Try.func10 (by kernel_rfl) rfl #[] rfl (by (try simp only [List.map_toArray, List.map_cons, List.map_nil]); first | done | rfl | (simp only [List.length_drop, List.length_take]; rfl)) ?_; (with_reducible refine (skiarealaw50_alive.calls  true _ A5.out).mono ?_); rintro e w19 ⟨rfl, hb⟩; refine ⟨_, rfl, ?_⟩; have n0_ := Aside0.mk (below_step (by repeat (first | (with_reducible first | exact HB.out | apply below_alloc | apply pw_below_drewN | apply below_drew1) | exact HB.out)) hb); clear HB; have HB := n0_; clear n0_; (try clear hb); (try clear hb2); (try clear hk); (try clear hi)) | ((with_reducible refine gate_callee (f := 11) rfl ?_); refine goesL_ (some 16) rfl rfl Try.func11 (by kernel_rfl) rfl #[.slice A0 l0.length c0] rfl (by (try simp only [List.map_toArray, List.map_cons, List.map_nil]); first | done | rfl | (simp only [List.length_drop, List.length_take]; rfl)) ?_; (with_reducible refine (skiarealaw50_small.calls k _ _ l0 true _ ?side1 ?side2 A7.out).mono ?_); (case side1 => repeat (first | exact (Kd.C_below HR0.out HB.out) | (with_reducible refine Kd.C_alloc ?_ _) | (with_reducible refine Kd.C_drewN ?_ _) | (with_reducible refine Kd.C_drew ?_))); (case side2 => exact HC0.out); rintro e w' ⟨rfl, ⟨nd, rfl⟩⟩; refine ⟨_, rfl, ?_⟩) | (go_at_call 12; (with_reducible refine (avalanche_Right.calls k _ _ l0 t320 _ ?side1 ?side2 A9.out).mono ?_); (case side1 => repeat (first | exact (Kd.C_below HR0.out (by repeat (first | (with_reducible first | exact HB.out | apply below_alloc | apply pw_below_drewN | apply below_drew1) | exact HB.out))) | (with_reducible refine Kd.C_alloc ?_ _) | (with_reducible refine Kd.C_drewN ?_ _) | (with_reducible refine Kd.C_drew ?_))); (case side2 => exact HC0.out); rintro e w20 ⟨rfl, hb⟩; have n0_ := Aside0.mk (below_step (by repeat (first | (with_reducible first | exact HB.out | apply below_alloc | apply pw_below_drewN | apply below_drew1) | exact HB.out)) hb); clear HB; have HB := n0_; clear n0_; (try clear hb); (try clear hb2); (try clear hk); (try clear hi)) | ((with_reducible refine gate_callee (f := 18) rfl ?_); refine goesL_ (some 32) rfl rfl Try.func18 (by kernel_rfl) rfl #[.slice A0 l0.length c0, .int .i64 a1, .int .i64 a2] rfl (by (try simp only [List.map_toArray, List.map_cons, List.map_nil]); first | done | rfl | (simp only [List.length_drop, List.length_take]; rfl)) ?_; (with_reducible refine (avalanche_Control.calls _ _ l0 a1 a2 t321 t322 _ ?side1 ?side2 A14.out).mono ?_); (case side1 => repeat (first | exact (Kd.C_below HR0.out HB.out) | (with_reducible refine Kd.C_alloc ?_ _) | (with_reducible refine Kd.C_drewN ?_ _) | (with_reducible refine Kd.C_drew ?_))); (case side2 => exact HC0.out); rintro e w21 ⟨v323, rfl, ho0, hb⟩; refine ⟨_, rfl, ?_⟩; have n0_ := Aside0.mk (Kd.S_lower ho0 (below_size (by repeat (first | (with_reducible first | exact HB.out | apply below_alloc | apply pw_below_drewN | apply below_drew1) | exact HB.out)))); have n1_ := Aside0.mk (below_step (by repeat (first | (with_reducible first | exact HB.out | apply below_alloc | apply pw_below_drewN | apply below_drew1) | exact HB.out)) hb); clear HB; have HO324 := n0_; have HB := n1_; clear n0_ n1_; (try clear hb); (try clear hb2); (try clear hk); (try clear hi); (try clear ho0); obtain ⟨Ao22, co22, eo22⟩ := Kd.S_slice HO324.out; subst eo22) | (go_at_call 12; (with_reducible refine (avalanche_Right.calls k _ _ t321 t325 _ ?side1 ?side2 A17.out).mono ?_); (case side1 => repeat (first | exact (Kd.S_reads' HO324.out).2.2 | (with_reducible refine Kd.C_alloc ?_ _) | (with_reducible refine Kd.C_drewN ?_ _) | (with_reducible refine Kd.C_drew ?_))); (case side2 => exact (Kd.S_reads' HO324.out).2.1); rintro e w23 ⟨rfl, hb⟩; have n0_ := Aside0.mk (Kd.S_below (by (with_reducible repeat (first | apply Kd.S_alloc | apply Kd.S_drewN | apply Kd.S_drew)); exact HO324.out) hb); have n1_ := Aside0.mk (below_step (by repeat (first | (with_reducible first | exact HB.out | apply below_alloc | apply pw_below_drewN | apply below_drew1) | exact HB.out)) hb); clear HO324; clear HB; have HO324 := n0_; have HB := n1_; clear n0_ n1_; (try clear hb); (try clear hb2); (try clear hk); (try clear hi)))
                go_loopg [11, 12] k (fun kq v11 v12 w' => ∃ (x11_1 : Int) (x12_1 : Int), v11 = .int .i64 x11_1 ∧ v12 = .int .i64 x12_1 ∧ Aside0 (skiarealaw50_AvalancheCalm.l0 kq l0 a1 a2 l3 t321 x11_1 x12_1 = some r) ∧ Aside0 (kq ≤ k) ∧ Aside0 (Kd.S k34 34 w' w.heap.size (fun _ => True) (.slice Ao22 t321.length co22) t321) ∧ Aside0 (Below w.heap.size w w'))
                case atStart => exact ⟨(0), (0), (by first | rfl | (simp; done) | (simp [*]; done)), (by first | rfl | (simp; done) | (simp [*]; done)), H', ⟨Nat.le_refl _⟩, ⟨by (with_reducible repeat (first | apply Kd.S_alloc | apply Kd.S_drewN | apply Kd.S_drew)); exact HO324.out⟩, ⟨by repeat (first | (with_reducible first | exact HB.out | apply below_alloc | apply pw_below_drewN | apply below_drew1) | exact HB.out)⟩⟩
                case round =>
                  clear H'
                  try clear c1
                  try clear p2
                  try clear c3
                  try clear c6
                  try clear c8
                  try clear c10
                  try clear c10b0
                  try clear c10b1
                  try clear c11
                  try clear c11b0
                  try clear c11b1
                  try clear c15
                  try clear c15b0
                  try clear c15b1
                  try clear c16
                  try clear c16b0
                  try clear c16b1
                  try clear c16b2
                  try clear c18
                  try clear c18b0
                  try clear c18b1
                  obtain ⟨x11_1, x12_1, rfl, rfl, HA, HK1, HO_9, HB⟩ := hrel
                  cases gk with
                  | zero => exact absurd HA.out (by simp [skiarealaw50_AvalancheCalm.l0])
                  | succ k1 =>
                    have H := HA.out
                    clear HA
                    simp only [skiarealaw50_AvalancheCalm.l0] at H
                    by_cases c24 : x12_1 < (l0.length : Int)
                    · rw [if_pos c24] at H
                      have c24b0 : decide (x12_1 < (l0.length : Int)) = true := decide_eq_true c24
                      clear c24
                      by_cases c25 : 0 ≤ x12_1
                      · rw [if_pos c25] at H
                        have c25b0 : decide (0 ≤ x12_1) = true := decide_eq_true c25
                        clear c25
                        by_cases c26 : ((rd_T34 l0 x12_1).f0) = a1
                        · rw [if_pos c26] at H
                          have c26b0 : (((rd_T34 l0 x12_1).f0) == a1) = true := beq_iff_eq.mpr c26
                          have c26b1 : (((rd_T34 l0 x12_1).f0) != a1) = false := bne_eq_false_iff_eq.mpr c26
                          clear c26
                          by_cases c27 : x12_1 < (t321.length : Int)
                          · rw [if_pos c27] at H
                            have c27b0 : decide (x12_1 < (t321.length : Int)) = true := decide_eq_true c27
                            clear c27
                            by_cases c28 : ((rd_T34 t321 x12_1).f4) = 0
                            · rw [if_pos c28] at H
                              have c28b0 : (((rd_T34 t321 x12_1).f4) == 0) = true := beq_iff_eq.mpr c28
                              have c28b1 : (((rd_T34 t321 x12_1).f4) != 0) = false := bne_eq_false_iff_eq.mpr c28
                              clear c28
                              by_cases c29 : ((rd_T34 t321 x12_1).f5) = a2
                              · rw [if_pos c29] at H
                                have c29b0 : (((rd_T34 t321 x12_1).f5) == a2) = true := beq_iff_eq.mpr c29
                                have c29b1 : (((rd_T34 t321 x12_1).f5) != a2) = false := bne_eq_false_iff_eq.mpr c29
                                clear c29
                                replace H := Option.bind_eq_some_iff.mp H
                                obtain ⟨t330, A300, H⟩ := H
                                replace H : ((avalanche_Level.f k1 ((rd_T34 l0 x12_1).f0) ((rd_T34 l0 x12_1).f1) ((rd_T34 l0 x12_1).f2) ((rd_T34 l0 x12_1).f3) ((rd_T34 l0 x12_1).f4) ((rd_T34 l0 x12_1).f5) l3).bind fun t332 => (if (t330 != (decide (t332 > 4))) = true then (none) else (skiarealaw50_AvalancheCalm.l0 k1 l0 a1 a2 l3 t321 (wrap64 (x11_1 + 1)) (wrap64 (x12_1 + 1))))) = some r := H
                                have A30 := Aside0.mk A300
                                clear A300
                                replace H := Option.bind_eq_some_iff.mp H
                                obtain ⟨t332, A310, H⟩ := H
                                replace H : (if (t330 != (decide (t332 > 4))) = true then (none) else (skiarealaw50_AvalancheCalm.l0 k1 l0 a1 a2 l3 t321 (wrap64 (x11_1 + 1)) (wrap64 (x12_1 + 1)))) = some r := H
                                have A31 := Aside0.mk A310
                                clear A310
                                by_cases c32 : (t330 != (decide (t332 > 4))) = true
                                · rw [if_pos c32] at H
                                  exact absurd H (by simp)
                                · rw [if_neg c32] at H
                                  have c32b0 : (t330 != (decide (t332 > 4))) = false := by simpa using c32
                                  (try (have c32b1 : decide (t330 = (decide (t332 > 4))) = true := by simpa using c32))
                                  (try (have c32b2 : (t330 == (decide (t332 > 4))) = true := by simpa using c32))
                                  clear c32
                                  have H' := Aside0.mk H
                                  clear H
                                  have p326 : 0 ≤ (x12_1 : Int) := of_decide_eq_true (by first | (with_reducible assumption) | assumption)
                                  have q326 : x12_1 < (l0.length : Int) := of_decide_eq_true (by first | (with_reducible assumption) | assumption)
                                  obtain ⟨ad326, A326_1, c326_1, A326_2, c326_2, e326, hx326_0, hx326_1, hx326_2, hx326_3, hx326_4, hx326_5, hl326_1, hi326_1, hl326_2, hi326_2⟩ := at_T34 HR0.out x12_1 p326 q326
                                  cases e326
                                  replace hx326_0 := (HB.out.cell (World.block_lt_of_cell? w _ hx326_0)).trans hx326_0
                                  replace hx326_1 := (HB.out.cell (World.block_lt_of_cell? w _ hx326_1)).trans hx326_1
                                  replace hx326_2 := (HB.out.cell (World.block_lt_of_cell? w _ hx326_2)).trans hx326_2
                                  replace hx326_3 := (HB.out.cell (World.block_lt_of_cell? w _ hx326_3)).trans hx326_3
                                  replace hx326_4 := (HB.out.cell (World.block_lt_of_cell? w _ hx326_4)).trans hx326_4
                                  replace hx326_5 := (HB.out.cell (World.block_lt_of_cell? w _ hx326_5)).trans hx326_5
                                  have HR326_1 := Aside0.mk hi326_1
                                  have HC326_1 := Aside0.mk hl326_1
                                  clear hi326_1 hl326_1
                                  have HR326_2 := Aside0.mk hi326_2
                                  have HC326_2 := Aside0.mk hl326_2
                                  clear hi326_2 hl326_2
                                  replace p326 := eq_true p326
                                  replace q326 := eq_true q326
                                  try go_wp2
                                  have n0_ := Aside0.mk (Kd.S_drew HO_9.out)
                                  have n1_ := Aside0.mk (below_drew1 HB.out)
                                  clear HO_9
                                  clear HB
                                  have HO_9 := n0_
                                  have HB := n1_
                                  clear n0_ n1_
                                  have p327 : 0 ≤ (x12_1 : Int) := of_decide_eq_true (by first | (with_reducible assumption) | assumption)
                                  have q327 : x12_1 < (t321.length : Int) := of_decide_eq_true (by first | (with_reducible assumption) | assumption)
                                  obtain ⟨ad327, A327_1, c327_1, A327_2, c327_2, e327, hx327_0, hx327_1, hx327_2, hx327_3, hx327_4, hx327_5, hl327_1, hi327_1, hl327_2, hi327_2⟩ := at_T34 (Kd.S_reads' HO_9.out).2.2 x12_1 p327 q327
                                  cases e327
                                  obtain ⟨ce327, hce327, hMe327, hcc327⟩ := Kd.S_get HO_9.out z34 x12_1 p327 (by first | exact q327 | exact of_decide_eq_true (by first | (with_reducible assumption) | assumption) | (have e_ := (Kd.S_reads' HO_9.out).1; omega))
                                  obtain ⟨ve327_1, ve327_2, rfl, ge327_1, ge327_2⟩ := k34_openM hMe327
                                  have hv327_1 := hcc327 1 _ rfl
                                  rw [add_field _ _ 1 (by omega)] at hv327_1
                                  replace hv327_1 := Option.some.inj (hv327_1.symm.trans hx327_1)
                                  rw [hv327_1] at ge327_1
                                  have HL327_1 := Aside0.mk (show Kd.R (Kd.int .i64) 3 _ _ _ _ ((rd_T34 t321 x12_1).f1) from ge327_1)
                                  clear hv327_1 ge327_1
                                  have hv327_2 := hcc327 2 _ rfl
                                  rw [add_field _ _ 2 (by omega)] at hv327_2
                                  replace hv327_2 := Option.some.inj (hv327_2.symm.trans hx327_2)
                                  rw [hv327_2] at ge327_2
                                  have HL327_2 := Aside0.mk (show Kd.R (Kd.int .i64) 3 _ _ _ _ ((rd_T34 t321 x12_1).f2) from ge327_2)
                                  clear hv327_2 ge327_2
                                  clear hcc327 hce327
                                  have HR327_1 := Aside0.mk hi327_1
                                  have HC327_1 := Aside0.mk hl327_1
                                  clear hi327_1 hl327_1
                                  have HR327_2 := Aside0.mk hi327_2
                                  have HC327_2 := Aside0.mk hl327_2
                                  clear hi327_2 hl327_2
                                  replace p327 := eq_true p327
                                  replace q327 := eq_true q327
                                  have p328 : 0 ≤ (x12_1 : Int) := of_decide_eq_true (by first | (with_reducible assumption) | assumption)
                                  have q328 : x12_1 < (t321.length : Int) := of_decide_eq_true (by first | (with_reducible assumption) | assumption)
                                  obtain ⟨ad328, A328_1, c328_1, A328_2, c328_2, e328, hx328_0, hx328_1, hx328_2, hx328_3, hx328_4, hx328_5, hl328_1, hi328_1, hl328_2, hi328_2⟩ := at_T34 (Kd.S_reads' HO_9.out).2.2 x12_1 p328 q328
                                  obtain rfl : ad327 = ad328 := (by injection e328)
                                  obtain ⟨ce328, hce328, hMe328, hcc328⟩ := Kd.S_get HO_9.out z34 x12_1 p328 (by first | exact q328 | exact of_decide_eq_true (by first | (with_reducible assumption) | assumption) | (have e_ := (Kd.S_reads' HO_9.out).1; omega))
                                  obtain ⟨ve328_1, ve328_2, rfl, ge328_1, ge328_2⟩ := k34_openM hMe328
                                  have hv328_1 := hcc328 1 _ rfl
                                  rw [add_field _ _ 1 (by omega)] at hv328_1
                                  replace hv328_1 := Option.some.inj (hv328_1.symm.trans hx328_1)
                                  rw [hv328_1] at ge328_1
                                  have HL328_1 := Aside0.mk (show Kd.R (Kd.int .i64) 3 _ _ _ _ ((rd_T34 t321 x12_1).f1) from ge328_1)
                                  clear hv328_1 ge328_1
                                  have hv328_2 := hcc328 2 _ rfl
                                  rw [add_field _ _ 2 (by omega)] at hv328_2
                                  replace hv328_2 := Option.some.inj (hv328_2.symm.trans hx328_2)
                                  rw [hv328_2] at ge328_2
                                  have HL328_2 := Aside0.mk (show Kd.R (Kd.int .i64) 3 _ _ _ _ ((rd_T34 t321 x12_1).f2) from ge328_2)
                                  clear hv328_2 ge328_2
                                  clear hcc328 hce328
                                  have HR328_1 := Aside0.mk hi328_1
                                  have HC328_1 := Aside0.mk hl328_1
                                  clear hi328_1 hl328_1
                                  have HR328_2 := Aside0.mk hi328_2
                                  have HC328_2 := Aside0.mk hl328_2
                                  clear hi328_2 hl328_2
                                  replace p328 := eq_true p328
                                  replace q328 := eq_true q328
                                  have ea_ := Option.some.inj (hx327_1.symm.trans hx328_1)
                                  injection ea_ with ea_ en_ ec_
                                  subst ea_
                                  subst ec_
                                  clear en_
                                  have ea_ := Option.some.inj (hx327_2.symm.trans hx328_2)
                                  injection ea_ with ea_ en_ ec_
                                  subst ea_
                                  subst ec_
                                  clear en_
                                  have p329 : 0 ≤ (x12_1 : Int) := of_decide_eq_true (by first | (with_reducible assumption) | assumption)
                                  have q329 : x12_1 < (t321.length : Int) := of_decide_eq_true (by first | (with_reducible assumption) | assumption)
                                  obtain ⟨ad329, A329_1, c329_1, A329_2, c329_2, e329, hx329_0, hx329_1, hx329_2, hx329_3, hx329_4, hx329_5, hl329_1, hi329_1, hl329_2, hi329_2⟩ := at_T34 (Kd.S_reads' HO_9.out).2.2 x12_1 p329 q329
                                  obtain rfl : ad327 = ad329 := (by injection e329)
                                  obtain ⟨ce329, hce329, hMe329, hcc329⟩ := Kd.S_get HO_9.out z34 x12_1 p329 (by first | exact q329 | exact of_decide_eq_true (by first | (with_reducible assumption) | assumption) | (have e_ := (Kd.S_reads' HO_9.out).1; omega))
                                  obtain ⟨ve329_1, ve329_2, rfl, ge329_1, ge329_2⟩ := k34_openM hMe329
                                  have hv329_1 := hcc329 1 _ rfl
                                  rw [add_field _ _ 1 (by omega)] at hv329_1
                                  replace hv329_1 := Option.some.inj (hv329_1.symm.trans hx329_1)
                                  rw [hv329_1] at ge329_1
                                  have HL329_1 := Aside0.mk (show Kd.R (Kd.int .i64) 3 _ _ _ _ ((rd_T34 t321 x12_1).f1) from ge329_1)
                                  clear hv329_1 ge329_1
                                  have hv329_2 := hcc329 2 _ rfl
                                  rw [add_field _ _ 2 (by omega)] at hv329_2
                                  replace hv329_2 := Option.some.inj (hv329_2.symm.trans hx329_2)
                                  rw [hv329_2] at ge329_2
                                  have HL329_2 := Aside0.mk (show Kd.R (Kd.int .i64) 3 _ _ _ _ ((rd_T34 t321 x12_1).f2) from ge329_2)
                                  clear hv329_2 ge329_2
                                  clear hcc329 hce329
                                  have HR329_1 := Aside0.mk hi329_1
                                  have HC329_1 := Aside0.mk hl329_1
                                  clear hi329_1 hl329_1
                                  have HR329_2 := Aside0.mk hi329_2
                                  have HC329_2 := Aside0.mk hl329_2
                                  clear hi329_2 hl329_2
                                  replace p329 := eq_true p329
                                  replace q329 := eq_true q329
                                  have ea_ := Option.some.inj (hx327_1.symm.trans hx329_1)
                                  injection ea_ with ea_ en_ ec_
                                  subst ea_
                                  subst ec_
                                  clear en_
                                  have ea_ := Option.some.inj (hx327_2.symm.trans hx329_2)
                                  injection ea_ with ea_ en_ ec_
                                  subst ea_
                                  subst ec_
                                  clear en_
                                  have p331 : 0 ≤ (x12_1 : Int) := of_decide_eq_true (by first | (with_reducible assumption) | assumption)
                                  have q331 : x12_1 < (l0.length : Int) := of_decide_eq_true (by first | (with_reducible assumption) | assumption)
                                  obtain ⟨ad331, A331_1, c331_1, A331_2, c331_2, e331, hx331_0, hx331_1, hx331_2, hx331_3, hx331_4, hx331_5, hl331_1, hi331_1, hl331_2, hi331_2⟩ := at_T34 HR0.out x12_1 p331 q331
                                  have hw331_5 := hx331_5
                                  have hw331_4 := hx331_4
                                  have hw331_3 := hx331_3
                                  have hw331_2 := hx331_2
                                  have hw331_1 := hx331_1
                                  have hw331_0 := hx331_0
                                  obtain rfl : ad326 = ad331 := (by injection e331)
                                  replace hx331_0 := (HB.out.cell (World.block_lt_of_cell? w _ hx331_0)).trans hx331_0
                                  replace hx331_1 := (HB.out.cell (World.block_lt_of_cell? w _ hx331_1)).trans hx331_1
                                  replace hx331_2 := (HB.out.cell (World.block_lt_of_cell? w _ hx331_2)).trans hx331_2
                                  replace hx331_3 := (HB.out.cell (World.block_lt_of_cell? w _ hx331_3)).trans hx331_3
                                  replace hx331_4 := (HB.out.cell (World.block_lt_of_cell? w _ hx331_4)).trans hx331_4
                                  replace hx331_5 := (HB.out.cell (World.block_lt_of_cell? w _ hx331_5)).trans hx331_5
                                  have HR331_1 := Aside0.mk hi331_1
                                  have HC331_1 := Aside0.mk hl331_1
                                  clear hi331_1 hl331_1
                                  have HR331_2 := Aside0.mk hi331_2
                                  have HC331_2 := Aside0.mk hl331_2
                                  clear hi331_2 hl331_2
                                  replace p331 := eq_true p331
                                  replace q331 := eq_true q331
                                  have EA331_1 := Aside0.mk (show A326_1 = A331_1 ∧ c326_1 = c331_1 from by have ea_ := Option.some.inj (hx326_1.symm.trans hx331_1); injection ea_ with ea_ en_ ec_; exact ⟨ea_, ec_⟩)
                                  have EA331_2 := Aside0.mk (show A326_2 = A331_2 ∧ c326_2 = c331_2 from by have ea_ := Option.some.inj (hx326_2.symm.trans hx331_2); injection ea_ with ea_ en_ ec_; exact ⟨ea_, ec_⟩)
                                  refine start_ (n := 31) (S := fun w' => w'.cell? (ad327.add ((x12_1).toNat * 6)) = some (.int .i64 ((rd_T34 t321 x12_1).f0)) ∧ w'.cell? ⟨(ad327.add ((x12_1).toNat * 6)).block, (ad327.add ((x12_1).toNat * 6)).off + 1, none⟩ = some (.slice A327_1 ((rd_T34 t321 x12_1).f1).length c327_1) ∧ w'.cell? ⟨(ad327.add ((x12_1).toNat * 6)).block, (ad327.add ((x12_1).toNat * 6)).off + 2, none⟩ = some (.slice A327_2 ((rd_T34 t321 x12_1).f2).length c327_2) ∧ w'.cell? ⟨(ad327.add ((x12_1).toNat * 6)).block, (ad327.add ((x12_1).toNat * 6)).off + 3, none⟩ = some (.int .i64 ((rd_T34 t321 x12_1).f3)) ∧ w'.cell? ⟨(ad327.add ((x12_1).toNat * 6)).block, (ad327.add ((x12_1).toNat * 6)).off + 4, none⟩ = some (.int .i64 ((rd_T34 t321 x12_1).f4)) ∧ w'.cell? ⟨(ad327.add ((x12_1).toNat * 6)).block, (ad327.add ((x12_1).toNat * 6)).off + 5, none⟩ = some (.int .i64 ((rd_T34 t321 x12_1).f5)) ∧ w'.cell? (ad327.add ((x12_1).toNat * 6)) = some (.int .i64 ((rd_T34 t321 x12_1).f0)) ∧ w'.cell? ⟨(ad327.add ((x12_1).toNat * 6)).block, (ad327.add ((x12_1).toNat * 6)).off + 1, none⟩ = some (.slice A327_1 ((rd_T34 t321 x12_1).f1).length c327_1) ∧ w'.cell? ⟨(ad327.add ((x12_1).toNat * 6)).block, (ad327.add ((x12_1).toNat * 6)).off + 2, none⟩ = some (.slice A327_2 ((rd_T34 t321 x12_1).f2).length c327_2) ∧ w'.cell? ⟨(ad327.add ((x12_1).toNat * 6)).block, (ad327.add ((x12_1).toNat * 6)).off + 3, none⟩ = some (.int .i64 ((rd_T34 t321 x12_1).f3)) ∧ w'.cell? ⟨(ad327.add ((x12_1).toNat * 6)).block, (ad327.add ((x12_1).toNat * 6)).off + 4, none⟩ = some (.int .i64 ((rd_T34 t321 x12_1).f4)) ∧ w'.cell? ⟨(ad327.add ((x12_1).toNat * 6)).block, (ad327.add ((x12_1).toNat * 6)).off + 5, none⟩ = some (.int .i64 ((rd_T34 t321 x12_1).f5)) ∧ w'.cell? (ad327.add ((x12_1).toNat * 6)) = some (.int .i64 ((rd_T34 t321 x12_1).f0)) ∧ w'.cell? ⟨(ad327.add ((x12_1).toNat * 6)).block, (ad327.add ((x12_1).toNat * 6)).off + 1, none⟩ = some (.slice A327_1 ((rd_T34 t321 x12_1).f1).length c327_1) ∧ w'.cell? ⟨(ad327.add ((x12_1).toNat * 6)).block, (ad327.add ((x12_1).toNat * 6)).off + 2, none⟩ = some (.slice A327_2 ((rd_T34 t321 x12_1).f2).length c327_2) ∧ w'.cell? ⟨(ad327.add ((x12_1).toNat * 6)).block, (ad327.add ((x12_1).toNat * 6)).off + 3, none⟩ = some (.int .i64 ((rd_T34 t321 x12_1).f3)) ∧ w'.cell? ⟨(ad327.add ((x12_1).toNat * 6)).block, (ad327.add ((x12_1).toNat * 6)).off + 4, none⟩ = some (.int .i64 ((rd_T34 t321 x12_1).f4)) ∧ w'.cell? ⟨(ad327.add ((x12_1).toNat * 6)).block, (ad327.add ((x12_1).toNat * 6)).off + 5, none⟩ = some (.int .i64 ((rd_T34 t321 x12_1).f5)) ∧ w'.cell? (ad326.add ((x12_1).toNat * 6)) = some (.int .i64 ((rd_T34 l0 x12_1).f0)) ∧ w'.cell? ⟨(ad326.add ((x12_1).toNat * 6)).block, (ad326.add ((x12_1).toNat * 6)).off + 1, none⟩ = some (.slice A331_1 ((rd_T34 l0 x12_1).f1).length c331_1) ∧ w'.cell? ⟨(ad326.add ((x12_1).toNat * 6)).block, (ad326.add ((x12_1).toNat * 6)).off + 2, none⟩ = some (.slice A331_2 ((rd_T34 l0 x12_1).f2).length c331_2) ∧ w'.cell? ⟨(ad326.add ((x12_1).toNat * 6)).block, (ad326.add ((x12_1).toNat * 6)).off + 3, none⟩ = some (.int .i64 ((rd_T34 l0 x12_1).f3)) ∧ w'.cell? ⟨(ad326.add ((x12_1).toNat * 6)).block, (ad326.add ((x12_1).toNat * 6)).off + 4, none⟩ = some (.int .i64 ((rd_T34 l0 x12_1).f4)) ∧ w'.cell? ⟨(ad326.add ((x12_1).toNat * 6)).block, (ad326.add ((x12_1).toNat * 6)).off + 5, none⟩ = some (.int .i64 ((rd_T34 l0 x12_1).f5))) (ds := []) #[false, false, false, false, false, false, false, false, false, false, false, false, false, false, false, false, false, false, false, false, false, false, false, false, false, false, false, false, false, false, false] (by kernel_rfl) rfl rfl ⟨hx327_0, hx327_1, hx327_2, hx327_3, hx327_4, hx327_5, hx328_0, hx328_1, hx328_2, hx328_3, hx328_4, hx328_5, hx329_0, hx329_1, hx329_2, hx329_3, hx329_4, hx329_5, ((HB.out.cell (World.block_lt_of_cell? w _ hw331_0)).trans hw331_0), ((HB.out.cell (World.block_lt_of_cell? w _ hw331_1)).trans hw331_1), ((HB.out.cell (World.block_lt_of_cell? w _ hw331_2)).trans hw331_2), ((HB.out.cell (World.block_lt_of_cell? w _ hw331_3)).trans hw331_3), ((HB.out.cell (World.block_lt_of_cell? w _ hw331_4)).trans hw331_4), ((HB.out.cell (World.block_lt_of_cell? w _ hw331_5)).trans hw331_5)⟩ (fun hHeld => ?_); refine with_tabW skiarealaw50_AvalancheCalm.tab18 skiarealaw50_AvalancheCalm.bits18 (fun HT_ HW_ => ?_)
                                  generalize wr.drew = w33 at HO_9 HB HL327_1 HL327_2 HL328_1 HL328_2 HL329_1 HL329_2 HR327_1 HR327_2 HR328_1 HR328_2 HR329_1 HR329_2 HR331_1 HR331_2 hx327_0 hx327_1 hx327_2 hx327_3 hx327_4 hx327_5 hx328_0 hx328_1 hx328_2 hx328_3 hx328_4 hx328_5 hx329_0 hx329_1 hx329_2 hx329_3 hx329_4 hx329_5 hx331_0 hx331_1 hx331_2 hx331_3 hx331_4 hx331_5 hHeld ⊢
                                  refine pure_ (i := 0) (N := some 75) (v := ?_) (a' := ?_) #[true, false, false, false, false, false, false, false, false, false, false, false, false, false, false, false, false, false, false, false, false, false, false, false, false, false, false, false, false, false, false] rfl rfl (any_of HT_.out (by kernel_rfl)) (fun _ _ _ h => h) (Or.inl ⟨by rfl, ?_⟩) ?_ ?_
                                  rotate_left
                                  · intro w'
                                    go_simp
                                    with_reducible rfl
                                  rotate_left
                                  · simp only [Act.put, List.setIfInBounds_toArray, List.set_cons_zero, List.set_cons_succ, i64_w, i32_w]
                                    rfl
                                  refine pure_ (i := 1) (N := some 76) (v := ?_) (a' := ?_) #[true, true, false, false, false, false, false, false, false, false, false, false, false, false, false, false, false, false, false, false, false, false, false, false, false, false, false, false, false, false, false] rfl rfl (any_of HT_.out (by kernel_rfl)) (fun _ _ _ h => h) (Or.inl ⟨by rfl, ?_⟩) ?_ ?_
                                  rotate_left
                                  · intro w'
                                    go_simp
                                    with_reducible rfl
                                  rotate_left
                                  · simp only [Act.put, List.setIfInBounds_toArray, List.set_cons_zero, List.set_cons_succ, i64_w, i32_w]
                                    rfl
                                  refine pure_ (i := 2) (N := some 77) (v := ?_) (a' := ?_) #[true, true, true, false, false, false, false, false, false, false, false, false, false, false, false, false, false, false, false, false, false, false, false, false, false, false, false, false, false, false, false] rfl rfl (any_of HT_.out (by kernel_rfl)) (fun _ _ _ h => h) (Or.inl ⟨by rfl, ?_⟩) ?_ ?_
                                  rotate_left
                                  · intro w'
                                    go_simp
                                    with_reducible rfl
                                  rotate_left
                                  · simp only [Act.put, List.setIfInBounds_toArray, List.set_cons_zero, List.set_cons_succ, i64_w, i32_w]
                                    rfl
                                  refine pure_ (i := 3) (N := some 78) (v := ?_) (a' := ?_) #[true, true, true, true, false, false, false, false, false, false, false, false, false, false, false, false, false, false, false, false, false, false, false, false, false, false, false, false, false, false, false] rfl rfl (any_of HT_.out (by kernel_rfl)) (fun _ _ _ h => h) (Or.inl ⟨by rfl, ?_⟩) ?_ ?_
                                  rotate_left
                                  · intro w'
                                    go_simp
                                    with_reducible rfl
                                  rotate_left
                                  · simp only [Act.put, List.setIfInBounds_toArray, List.set_cons_zero, List.set_cons_succ, i64_w, i32_w]
                                    rfl
                                  refine take_ (i := 4) (N := some 79) (v := ?_) (a' := ?_) #[true, true, true, true, true, false, false, false, false, false, false, false, false, false, false, false, false, false, false, false, false, false, false, false, false, false, false, false, false, false, false] rfl rfl (take_ofW HT_.out HW_.out (by kernel_rfl)) (fun _ _ _ h => h) (Or.inl ⟨by rfl, ?_⟩) hHeld ?_ ?_
                                  rotate_left
                                  · rintro w' ⟨s0, s1, s2, s3, s4, s5, s6, s7, s8, s9, s10, s11, s12, s13, s14, s15, s16, s17, s18, s19, s20, s21, s22, s23⟩
                                    go_simp
                                    with_reducible rfl
                                  rotate_left
                                  · simp only [Act.put, List.setIfInBounds_toArray, List.set_cons_zero, List.set_cons_succ, i64_w, i32_w]
                                    rfl
                                  refine pure_ (i := 5) (N := some 80) (v := ?_) (a' := ?_) #[true, true, true, true, true, true, false, false, false, false, false, false, false, false, false, false, false, false, false, false, false, false, false, false, false, false, false, false, false, false, false] rfl rfl (any_of HT_.out (by kernel_rfl)) (fun _ _ _ h => h) (Or.inl ⟨by rfl, ?_⟩) ?_ ?_
                                  rotate_left
                                  · intro w'
                                    go_simp
                                    with_reducible rfl
                                  rotate_left
                                  · simp only [Act.put, List.setIfInBounds_toArray, List.set_cons_zero, List.set_cons_succ, i64_w, i32_w]
                                    rfl
                                  refine pure_ (i := 6) (N := some 81) (v := ?_) (a' := ?_) #[true, true, true, true, true, true, true, false, false, false, false, false, false, false, false, false, false, false, false, false, false, false, false, false, false, false, false, false, false, false, false] rfl rfl (any_of HT_.out (by kernel_rfl)) (fun _ _ _ h => h) (Or.inl ⟨by rfl, ?_⟩) ?_ ?_
                                  rotate_left
                                  · intro w'
                                    go_simp
                                    with_reducible rfl
                                  rotate_left
                                  · simp only [Act.put, List.setIfInBounds_toArray, List.set_cons_zero, List.set_cons_succ, i64_w, i32_w]
                                    rfl
                                  refine pure_ (i := 7) (N := some 82) (v := ?_) (a' := ?_) #[true, true, true, true, true, true, true, true, false, false, false, false, false, false, false, false, false, false, false, false, false, false, false, false, false, false, false, false, false, false, false] rfl rfl (any_of HT_.out (by kernel_rfl)) (fun _ _ _ h => h) (Or.inl ⟨by rfl, ?_⟩) ?_ ?_
                                  rotate_left
                                  · intro w'
                                    go_simp
                                    with_reducible rfl
                                  rotate_left
                                  · simp only [Act.put, List.setIfInBounds_toArray, List.set_cons_zero, List.set_cons_succ, i64_w, i32_w]
                                    rfl
                                  refine pure_ (i := 8) (N := some 83) (v := ?_) (a' := ?_) #[true, true, true, true, true, true, true, true, true, false, false, false, false, false, false, false, false, false, false, false, false, false, false, false, false, false, false, false, false, false, false] rfl rfl (any_of HT_.out (by kernel_rfl)) (fun _ _ _ h => h) (Or.inl ⟨by rfl, ?_⟩) ?_ ?_
                                  rotate_left
                                  · intro w'
                                    go_simp
                                    with_reducible rfl
                                  rotate_left
                                  · simp only [Act.put, List.setIfInBounds_toArray, List.set_cons_zero, List.set_cons_succ, i64_w, i32_w]
                                    rfl
                                  refine pure_ (i := 9) (N := some 84) (v := ?_) (a' := ?_) #[true, true, true, true, true, true, true, true, true, true, false, false, false, false, false, false, false, false, false, false, false, false, false, false, false, false, false, false, false, false, false] rfl rfl (any_of HT_.out (by kernel_rfl)) (fun _ _ _ h => h) (Or.inl ⟨by rfl, ?_⟩) ?_ ?_
                                  rotate_left
                                  · intro w'
                                    go_simp
                                    with_reducible rfl
                                  rotate_left
                                  · simp only [Act.put, List.setIfInBounds_toArray, List.set_cons_zero, List.set_cons_succ, i64_w, i32_w]
                                    rfl
                                  refine pure_ (i := 10) (N := some 85) (v := ?_) (a' := ?_) #[true, true, true, true, true, true, true, true, true, true, true, false, false, false, false, false, false, false, false, false, false, false, false, false, false, false, false, false, false, false, false] rfl rfl (any_of HT_.out (by kernel_rfl)) (fun _ _ _ h => h) (Or.inl ⟨by rfl, ?_⟩) ?_ ?_
                                  rotate_left
                                  · intro w'
                                    go_simp
                                    with_reducible rfl
                                  rotate_left
                                  · simp only [Act.put, List.setIfInBounds_toArray, List.set_cons_zero, List.set_cons_succ, i64_w, i32_w]
                                    rfl
                                  refine pure_ (i := 12) (N := some 87) (v := ?_) (a' := ?_) #[true, true, true, true, true, true, true, true, true, true, true, false, true, false, false, false, false, false, false, false, false, false, false, false, false, false, false, false, false, false, false] rfl rfl (any_of HT_.out (by kernel_rfl)) (fun _ _ _ h => h) (Or.inl ⟨by rfl, ?_⟩) ?_ ?_
                                  rotate_left
                                  · intro w'
                                    go_simp
                                    with_reducible rfl
                                  rotate_left
                                  · simp only [Act.put, List.setIfInBounds_toArray, List.set_cons_zero, List.set_cons_succ, i64_w, i32_w]
                                    rfl
                                  refine take_ (i := 11) (N := some 86) (v := ?_) (a' := ?_) #[true, true, true, true, true, true, true, true, true, true, true, true, true, false, false, false, false, false, false, false, false, false, false, false, false, false, false, false, false, false, false] rfl rfl (take_ofW HT_.out HW_.out (by kernel_rfl)) (fun _ _ _ h => h) (Or.inl ⟨by rfl, ?_⟩) hHeld ?_ ?_
                                  rotate_left
                                  · rintro w' ⟨s0, s1, s2, s3, s4, s5, s6, s7, s8, s9, s10, s11, s12, s13, s14, s15, s16, s17, s18, s19, s20, s21, s22, s23⟩
                                    go_simp
                                    with_reducible rfl
                                  rotate_left
                                  · simp only [Act.put, List.setIfInBounds_toArray, List.set_cons_zero, List.set_cons_succ, i64_w, i32_w]
                                    rfl
                                  refine pure_ (i := 13) (N := some 88) (v := ?_) (a' := ?_) #[true, true, true, true, true, true, true, true, true, true, true, true, true, true, false, false, false, false, false, false, false, false, false, false, false, false, false, false, false, false, false] rfl rfl (any_of HT_.out (by kernel_rfl)) (fun _ _ _ h => h) (Or.inl ⟨by rfl, ?_⟩) ?_ ?_
                                  rotate_left
                                  · intro w'
                                    go_simp
                                    with_reducible rfl
                                  rotate_left
                                  · simp only [Act.put, List.setIfInBounds_toArray, List.set_cons_zero, List.set_cons_succ, i64_w, i32_w]
                                    rfl
                                  refine pure_ (i := 14) (N := some 89) (v := ?_) (a' := ?_) #[true, true, true, true, true, true, true, true, true, true, true, true, true, true, true, false, false, false, false, false, false, false, false, false, false, false, false, false, false, false, false] rfl rfl (any_of HT_.out (by kernel_rfl)) (fun _ _ _ h => h) (Or.inl ⟨by rfl, ?_⟩) ?_ ?_
                                  rotate_left
                                  · intro w'
                                    go_simp
                                    with_reducible rfl
                                  rotate_left
                                  · simp only [Act.put, List.setIfInBounds_toArray, List.set_cons_zero, List.set_cons_succ, i64_w, i32_w]
                                    rfl
                                  refine pure_ (i := 15) (N := some 90) (v := ?_) (a' := ?_) #[true, true, true, true, true, true, true, true, true, true, true, true, true, true, true, true, false, false, false, false, false, false, false, false, false, false, false, false, false, false, false] rfl rfl (any_of HT_.out (by kernel_rfl)) (fun _ _ _ h => h) (Or.inl ⟨by rfl, ?_⟩) ?_ ?_
                                  rotate_left
                                  · intro w'
                                    go_simp
                                    with_reducible rfl
                                  rotate_left
                                  · simp only [Act.put, List.setIfInBounds_toArray, List.set_cons_zero, List.set_cons_succ, i64_w, i32_w]
                                    rfl
                                  refine pure_ (i := 16) (N := some 91) (v := ?_) (a' := ?_) #[true, true, true, true, true, true, true, true, true, true, true, true, true, true, true, true, true, false, false, false, false, false, false, false, false, false, false, false, false, false, false] rfl rfl (any_of HT_.out (by kernel_rfl)) (fun _ _ _ h => h) (Or.inl ⟨by rfl, ?_⟩) ?_ ?_
                                  rotate_left
                                  · intro w'
                                    go_simp
                                    with_reducible rfl
                                  rotate_left
                                  · simp only [Act.put, List.setIfInBounds_toArray, List.set_cons_zero, List.set_cons_succ, i64_w, i32_w]
                                    rfl
                                  refine pure_ (i := 17) (N := some 92) (v := ?_) (a' := ?_) #[true, true, true, true, true, true, true, true, true, true, true, true, true, true, true, true, true, true, false, false, false, false, false, false, false, false, false, false, false, false, false] rfl rfl (any_of HT_.out (by kernel_rfl)) (fun _ _ _ h => h) (Or.inl ⟨by rfl, ?_⟩) ?_ ?_
                                  rotate_left
                                  · intro w'
                                    go_simp
                                    with_reducible rfl
                                  rotate_left
                                  · simp only [Act.put, List.setIfInBounds_toArray, List.set_cons_zero, List.set_cons_succ, i64_w, i32_w]
                                    rfl
                                  refine pure_ (i := 18) (N := some 93) (v := ?_) (a' := ?_) #[true, true, true, true, true, true, true, true, true, true, true, true, true, true, true, true, true, true, true, false, false, false, false, false, false, false, false, false, false, false, false] rfl rfl (any_of HT_.out (by kernel_rfl)) (fun _ _ _ h => h) (Or.inl ⟨by rfl, ?_⟩) ?_ ?_
                                  rotate_left
                                  · intro w'
                                    go_simp
                                    with_reducible rfl
                                  rotate_left
                                  · simp only [Act.put, List.setIfInBounds_toArray, List.set_cons_zero, List.set_cons_succ, i64_w, i32_w]
                                    rfl
                                  refine pure_ (i := 20) (N := some 95) (v := ?_) (a' := ?_) #[true, true, true, true, true, true, true, true, true, true, true, true, true, true, true, true, true, true, true, false, true, false, false, false, false, false, false, false, false, false, false] rfl rfl (any_of HT_.out (by kernel_rfl)) (fun _ _ _ h => h) (Or.inl ⟨by rfl, ?_⟩) ?_ ?_
                                  rotate_left
                                  · intro w'
                                    go_simp
                                    with_reducible rfl
                                  rotate_left
                                  · simp only [Act.put, List.setIfInBounds_toArray, List.set_cons_zero, List.set_cons_succ, i64_w, i32_w]
                                    rfl
                                  refine pure_ (i := 22) (N := some 97) (v := ?_) (a' := ?_) #[true, true, true, true, true, true, true, true, true, true, true, true, true, true, true, true, true, true, true, false, true, false, true, false, false, false, false, false, false, false, false] rfl rfl (any_of HT_.out (by kernel_rfl)) (fun _ _ _ h => h) (Or.inl ⟨by rfl, ?_⟩) ?_ ?_
                                  rotate_left
                                  · intro w'
                                    go_simp
                                    with_reducible rfl
                                  rotate_left
                                  · simp only [Act.put, List.setIfInBounds_toArray, List.set_cons_zero, List.set_cons_succ, i64_w, i32_w]
                                    rfl
                                  refine pure_ (i := 23) (N := some 98) (v := ?_) (a' := ?_) #[true, true, true, true, true, true, true, true, true, true, true, true, true, true, true, true, true, true, true, false, true, false, true, true, false, false, false, false, false, false, false] rfl rfl (any_of HT_.out (by kernel_rfl)) (fun _ _ _ h => h) (Or.inl ⟨by rfl, ?_⟩) ?_ ?_
                                  rotate_left
                                  · intro w'
                                    go_simp
                                    with_reducible rfl
                                  rotate_left
                                  · simp only [Act.put, List.setIfInBounds_toArray, List.set_cons_zero, List.set_cons_succ, i64_w, i32_w]
                                    rfl
                                  refine pure_ (i := 24) (N := some 99) (v := ?_) (a' := ?_) #[true, true, true, true, true, true, true, true, true, true, true, true, true, true, true, true, true, true, true, false, true, false, true, true, true, false, false, false, false, false, false] rfl rfl (any_of HT_.out (by kernel_rfl)) (fun _ _ _ h => h) (Or.inl ⟨by rfl, ?_⟩) ?_ ?_
                                  rotate_left
                                  · intro w'
                                    go_simp
                                    with_reducible rfl
                                  rotate_left
                                  · simp only [Act.put, List.setIfInBounds_toArray, List.set_cons_zero, List.set_cons_succ, i64_w, i32_w]
                                    rfl
                                  refine pure_ (i := 26) (N := some 101) (v := ?_) (a' := ?_) #[true, true, true, true, true, true, true, true, true, true, true, true, true, true, true, true, true, true, true, false, true, false, true, true, true, false, true, false, false, false, false] rfl rfl (any_of HT_.out (by kernel_rfl)) (fun _ _ _ h => h) (Or.inl ⟨by rfl, ?_⟩) ?_ ?_
                                  rotate_left
                                  · intro w'
                                    go_simp
                                    with_reducible rfl
                                  rotate_left
                                  · simp only [Act.put, List.setIfInBounds_toArray, List.set_cons_zero, List.set_cons_succ, i64_w, i32_w]
                                    rfl
                                  refine take_ (i := 19) (N := some 94) (v := ?_) (a' := ?_) #[true, true, true, true, true, true, true, true, true, true, true, true, true, true, true, true, true, true, true, true, true, false, true, true, true, false, true, false, false, false, false] rfl rfl (take_ofW HT_.out HW_.out (by kernel_rfl)) (fun _ _ _ h => h) (Or.inl ⟨by rfl, ?_⟩) hHeld ?_ ?_
                                  rotate_left
                                  · rintro w' ⟨s0, s1, s2, s3, s4, s5, s6, s7, s8, s9, s10, s11, s12, s13, s14, s15, s16, s17, s18, s19, s20, s21, s22, s23⟩
                                    go_simp
                                    with_reducible rfl
                                  rotate_left
                                  · simp only [Act.put, List.setIfInBounds_toArray, List.set_cons_zero, List.set_cons_succ, i64_w, i32_w]
                                    rfl
                                  refine take_ (i := 25) (N := some 100) (v := ?_) (a' := ?_) #[true, true, true, true, true, true, true, true, true, true, true, true, true, true, true, true, true, true, true, true, true, false, true, true, true, true, true, false, false, false, false] rfl rfl (take_ofW HT_.out HW_.out (by kernel_rfl)) (fun _ _ _ h => h) (Or.inl ⟨by rfl, ?_⟩) hHeld ?_ ?_
                                  rotate_left
                                  · rintro w' ⟨s0, s1, s2, s3, s4, s5, s6, s7, s8, s9, s10, s11, s12, s13, s14, s15, s16, s17, s18, s19, s20, s21, s22, s23⟩
                                    go_simp
                                    with_reducible rfl
                                  rotate_left
                                  · simp only [Act.put, List.setIfInBounds_toArray, List.set_cons_zero, List.set_cons_succ, i64_w, i32_w]
                                    rfl
                                  refine one_ (i := 21) (N := some 96) #[true, true, true, true, true, true, true, true, true, true, true, true, true, true, true, true, true, true, true, true, true, true, true, true, true, true, true, false, false, false, false] rfl rfl (one_of HT_.out (by kernel_rfl)) (by decide) (fun K hK => ?_)
                                  refine goes_ Try.func22 (by kernel_rfl) rfl #[.agg #[.int .i64 ((rd_T34 t321 x12_1).f0), .slice A327_1 ((rd_T34 t321 x12_1).f1).length c327_1, .slice A327_2 ((rd_T34 t321 x12_1).f2).length c327_2, .int .i64 ((rd_T34 t321 x12_1).f3), .int .i64 ((rd_T34 t321 x12_1).f4), .int .i64 ((rd_T34 t321 x12_1).f5)], .slice A3 l3.length c3] (by rfl) rfl rfl (by (try simp only [List.map_toArray, List.map_cons, List.map_nil]); first | done | rfl | (simp only [List.length_drop, List.length_take]; rfl)) ?_
                                  with_reducible refine (avalanche_Unstable.calls k1 ((rd_T34 t321 x12_1).f0) _ _ ((rd_T34 t321 x12_1).f1) _ _ ((rd_T34 t321 x12_1).f2) ((rd_T34 t321 x12_1).f3) ((rd_T34 t321 x12_1).f4) ((rd_T34 t321 x12_1).f5) _ _ l3 t330 _ ?side1 ?side2 ?side3 ?side4 ?side5 ?side6 A30.out).mono ?_
                                  (case side1 => repeat (first | exact (by repeat (first | (with_reducible exact HR329_1.out) | (with_reducible refine Kd.C_alloc ?_ _) | (with_reducible refine Kd.C_drewN ?_ _) | (with_reducible refine Kd.C_drew ?_) | exact HR329_1.out)) | (with_reducible refine Kd.C_alloc ?_ _) | (with_reducible refine Kd.C_drewN ?_ _) | (with_reducible refine Kd.C_drew ?_)))
                                  (case side2 => exact HC329_1.out)
                                  (case side3 => repeat (first | exact (by repeat (first | (with_reducible exact HR329_2.out) | (with_reducible refine Kd.C_alloc ?_ _) | (with_reducible refine Kd.C_drewN ?_ _) | (with_reducible refine Kd.C_drew ?_) | exact HR329_2.out)) | (with_reducible refine Kd.C_alloc ?_ _) | (with_reducible refine Kd.C_drewN ?_ _) | (with_reducible refine Kd.C_drew ?_)))
                                  (case side4 => exact HC329_2.out)
                                  (case side5 => repeat (first | exact (Kd.C_below HR3.out HB.out) | (with_reducible refine Kd.C_alloc ?_ _) | (with_reducible refine Kd.C_drewN ?_ _) | (with_reducible refine Kd.C_drew ?_)))
                                  (case side6 => exact HC3.out)
                                  rintro e w34 ⟨rfl, hb⟩
                                  have HS0_ := (hb.cell (World.block_lt_of_cell? _ _ (hHeld.1))).trans (hHeld.1)
                                  have HS1_ := (hb.cell (World.block_lt_of_cell? _ _ (hHeld.2.1))).trans (hHeld.2.1)
                                  have HS2_ := (hb.cell (World.block_lt_of_cell? _ _ (hHeld.2.2.1))).trans (hHeld.2.2.1)
                                  have HS3_ := (hb.cell (World.block_lt_of_cell? _ _ (hHeld.2.2.2.1))).trans (hHeld.2.2.2.1)
                                  have HS4_ := (hb.cell (World.block_lt_of_cell? _ _ (hHeld.2.2.2.2.1))).trans (hHeld.2.2.2.2.1)
                                  have HS5_ := (hb.cell (World.block_lt_of_cell? _ _ (hHeld.2.2.2.2.2.1))).trans (hHeld.2.2.2.2.2.1)
                                  have HS6_ := (hb.cell (World.block_lt_of_cell? _ _ (hHeld.2.2.2.2.2.2.1))).trans (hHeld.2.2.2.2.2.2.1)
                                  have HS7_ := (hb.cell (World.block_lt_of_cell? _ _ (hHeld.2.2.2.2.2.2.2.1))).trans (hHeld.2.2.2.2.2.2.2.1)
                                  have HS8_ := (hb.cell (World.block_lt_of_cell? _ _ (hHeld.2.2.2.2.2.2.2.2.1))).trans (hHeld.2.2.2.2.2.2.2.2.1)
                                  have HS9_ := (hb.cell (World.block_lt_of_cell? _ _ (hHeld.2.2.2.2.2.2.2.2.2.1))).trans (hHeld.2.2.2.2.2.2.2.2.2.1)
                                  have HS10_ := (hb.cell (World.block_lt_of_cell? _ _ (hHeld.2.2.2.2.2.2.2.2.2.2.1))).trans (hHeld.2.2.2.2.2.2.2.2.2.2.1)
                                  have HS11_ := (hb.cell (World.block_lt_of_cell? _ _ (hHeld.2.2.2.2.2.2.2.2.2.2.2.1))).trans (hHeld.2.2.2.2.2.2.2.2.2.2.2.1)
                                  have HS12_ := (hb.cell (World.block_lt_of_cell? _ _ (hHeld.2.2.2.2.2.2.2.2.2.2.2.2.1))).trans (hHeld.2.2.2.2.2.2.2.2.2.2.2.2.1)
                                  have HS13_ := (hb.cell (World.block_lt_of_cell? _ _ (hHeld.2.2.2.2.2.2.2.2.2.2.2.2.2.1))).trans (hHeld.2.2.2.2.2.2.2.2.2.2.2.2.2.1)
                                  have HS14_ := (hb.cell (World.block_lt_of_cell? _ _ (hHeld.2.2.2.2.2.2.2.2.2.2.2.2.2.2.1))).trans (hHeld.2.2.2.2.2.2.2.2.2.2.2.2.2.2.1)
                                  have HS15_ := (hb.cell (World.block_lt_of_cell? _ _ (hHeld.2.2.2.2.2.2.2.2.2.2.2.2.2.2.2.1))).trans (hHeld.2.2.2.2.2.2.2.2.2.2.2.2.2.2.2.1)
                                  have HS16_ := (hb.cell (World.block_lt_of_cell? _ _ (hHeld.2.2.2.2.2.2.2.2.2.2.2.2.2.2.2.2.1))).trans (hHeld.2.2.2.2.2.2.2.2.2.2.2.2.2.2.2.2.1)
                                  have HS17_ := (hb.cell (World.block_lt_of_cell? _ _ (hHeld.2.2.2.2.2.2.2.2.2.2.2.2.2.2.2.2.2.1))).trans (hHeld.2.2.2.2.2.2.2.2.2.2.2.2.2.2.2.2.2.1)
                                  refine ⟨_, rfl, ?_⟩
                                  have n0_ := Aside0.mk (Kd.S_below (by (with_reducible repeat (first | apply Kd.S_alloc | apply Kd.S_drewN | apply Kd.S_drew)); exact HO_9.out) hb)
                                  have n1_ := Aside0.mk (Kd.R_below (by (with_reducible repeat (first | apply Kd.R_alloc | apply Kd.R_drewN | apply Kd.R_drew)); exact HL327_1.out) hb)
                                  have n2_ := Aside0.mk (Kd.R_below (by (with_reducible repeat (first | apply Kd.R_alloc | apply Kd.R_drewN | apply Kd.R_drew)); exact HL327_2.out) hb)
                                  have n3_ := Aside0.mk (Kd.R_below (by (with_reducible repeat (first | apply Kd.R_alloc | apply Kd.R_drewN | apply Kd.R_drew)); exact HL328_1.out) hb)
                                  have n4_ := Aside0.mk (Kd.R_below (by (with_reducible repeat (first | apply Kd.R_alloc | apply Kd.R_drewN | apply Kd.R_drew)); exact HL328_2.out) hb)
                                  have n5_ := Aside0.mk (Kd.R_below (by (with_reducible repeat (first | apply Kd.R_alloc | apply Kd.R_drewN | apply Kd.R_drew)); exact HL329_1.out) hb)
                                  have n6_ := Aside0.mk (Kd.R_below (by (with_reducible repeat (first | apply Kd.R_alloc | apply Kd.R_drewN | apply Kd.R_drew)); exact HL329_2.out) hb)
                                  have n7_ := Aside0.mk (Kd.C_below (by repeat (first | (with_reducible exact HR327_1.out) | (with_reducible refine Kd.C_alloc ?_ _) | (with_reducible refine Kd.C_drewN ?_ _) | (with_reducible refine Kd.C_drew ?_) | exact HR327_1.out)) hb)
                                  have n8_ := Aside0.mk (Kd.C_below (by repeat (first | (with_reducible exact HR327_2.out) | (with_reducible refine Kd.C_alloc ?_ _) | (with_reducible refine Kd.C_drewN ?_ _) | (with_reducible refine Kd.C_drew ?_) | exact HR327_2.out)) hb)
                                  have n9_ := Aside0.mk (Kd.C_below (by repeat (first | (with_reducible exact HR328_1.out) | (with_reducible refine Kd.C_alloc ?_ _) | (with_reducible refine Kd.C_drewN ?_ _) | (with_reducible refine Kd.C_drew ?_) | exact HR328_1.out)) hb)
                                  have n10_ := Aside0.mk (Kd.C_below (by repeat (first | (with_reducible exact HR328_2.out) | (with_reducible refine Kd.C_alloc ?_ _) | (with_reducible refine Kd.C_drewN ?_ _) | (with_reducible refine Kd.C_drew ?_) | exact HR328_2.out)) hb)
                                  have n11_ := Aside0.mk (Kd.C_below (by repeat (first | (with_reducible exact HR329_1.out) | (with_reducible refine Kd.C_alloc ?_ _) | (with_reducible refine Kd.C_drewN ?_ _) | (with_reducible refine Kd.C_drew ?_) | exact HR329_1.out)) hb)
                                  have n12_ := Aside0.mk (Kd.C_below (by repeat (first | (with_reducible exact HR329_2.out) | (with_reducible refine Kd.C_alloc ?_ _) | (with_reducible refine Kd.C_drewN ?_ _) | (with_reducible refine Kd.C_drew ?_) | exact HR329_2.out)) hb)
                                  have n13_ := Aside0.mk (below_step (by repeat (first | (with_reducible first | exact HB.out | apply below_alloc | apply pw_below_drewN | apply below_drew1) | exact HB.out)) hb)
                                  clear HO_9
                                  clear HL327_1
                                  clear HL327_2
                                  clear HL328_1
                                  clear HL328_2
                                  clear HL329_1
                                  clear HL329_2
                                  clear HR327_1
                                  clear HR327_2
                                  clear HR328_1
                                  clear HR328_2
                                  clear HR329_1
                                  clear HR329_2
                                  clear HB
                                  have HO_9 := n0_
                                  have HL327_1 := n1_
                                  have HL327_2 := n2_
                                  have HL328_1 := n3_
                                  have HL328_2 := n4_
                                  have HL329_1 := n5_
                                  have HL329_2 := n6_
                                  have HR327_1 := n7_
                                  have HR327_2 := n8_
                                  have HR328_1 := n9_
                                  have HR328_2 := n10_
                                  have HR329_1 := n11_
                                  have HR329_2 := n12_
                                  have HB := n13_
                                  clear n0_ n1_ n2_ n3_ n4_ n5_ n6_ n7_ n8_ n9_ n10_ n11_ n12_ n13_
                                  (try clear hb)
                                  (try clear hb2)
                                  (try clear hk)
                                  (try clear hi)
                                  refine hK.out _ _ ⟨HS0_, HS1_, HS2_, HS3_, HS4_, HS5_, HS6_, HS7_, HS8_, HS9_, HS10_, HS11_, HS12_, HS13_, HS14_, HS15_, HS16_, HS17_, ((HB.out.cell (World.block_lt_of_cell? w _ hw331_0)).trans hw331_0), ((HB.out.cell (World.block_lt_of_cell? w _ hw331_1)).trans hw331_1), ((HB.out.cell (World.block_lt_of_cell? w _ hw331_2)).trans hw331_2), ((HB.out.cell (World.block_lt_of_cell? w _ hw331_3)).trans hw331_3), ((HB.out.cell (World.block_lt_of_cell? w _ hw331_4)).trans hw331_4), ((HB.out.cell (World.block_lt_of_cell? w _ hw331_5)).trans hw331_5)⟩ (fun hHeld => ?_)
                                  clear hK K
                                  refine norm_ (a' := ?_) ?_ ?_
                                  rotate_left
                                  · show Act.put _ (some 96) _ = _
                                    simp only [Act.put, List.setIfInBounds_toArray, List.set_cons_zero, List.set_cons_succ, i64_w, i32_w]
                                    rfl
                                  refine one_ (i := 27) (N := some 102) #[true, true, true, true, true, true, true, true, true, true, true, true, true, true, true, true, true, true, true, true, true, true, true, true, true, true, true, true, false, false, false] rfl rfl (one_of HT_.out (by kernel_rfl)) (by decide) (fun K hK => ?_)
                                  refine goes_ Try.func20 (by kernel_rfl) rfl #[.agg #[.int .i64 ((rd_T34 l0 x12_1).f0), .slice A331_1 ((rd_T34 l0 x12_1).f1).length c331_1, .slice A331_2 ((rd_T34 l0 x12_1).f2).length c331_2, .int .i64 ((rd_T34 l0 x12_1).f3), .int .i64 ((rd_T34 l0 x12_1).f4), .int .i64 ((rd_T34 l0 x12_1).f5)], .slice A3 l3.length c3] (by rfl) rfl rfl (by (try simp only [List.map_toArray, List.map_cons, List.map_nil]); first | done | rfl | (simp only [EA331_1.out.1, EA331_1.out.2, EA331_2.out.1, EA331_2.out.2]; rfl) | (simp only [List.length_drop, List.length_take]; rfl)) ?_
                                  with_reducible refine (avalanche_Level.calls k1 ((rd_T34 l0 x12_1).f0) _ _ ((rd_T34 l0 x12_1).f1) _ _ ((rd_T34 l0 x12_1).f2) ((rd_T34 l0 x12_1).f3) ((rd_T34 l0 x12_1).f4) ((rd_T34 l0 x12_1).f5) _ _ l3 t332 _ ?side1 ?side2 ?side3 ?side4 ?side5 ?side6 A31.out).mono ?_
                                  (case side1 => repeat (first | exact (Kd.C_below HR331_1.out HB.out) | (with_reducible refine Kd.C_alloc ?_ _) | (with_reducible refine Kd.C_drewN ?_ _) | (with_reducible refine Kd.C_drew ?_)))
                                  (case side2 => exact HC331_1.out)
                                  (case side3 => repeat (first | exact (Kd.C_below HR331_2.out HB.out) | (with_reducible refine Kd.C_alloc ?_ _) | (with_reducible refine Kd.C_drewN ?_ _) | (with_reducible refine Kd.C_drew ?_)))
                                  (case side4 => exact HC331_2.out)
                                  (case side5 => repeat (first | exact (Kd.C_below HR3.out HB.out) | (with_reducible refine Kd.C_alloc ?_ _) | (with_reducible refine Kd.C_drewN ?_ _) | (with_reducible refine Kd.C_drew ?_)))
                                  (case side6 => exact HC3.out)
                                  rintro e w35 ⟨rfl, hb⟩
                                  have HS0_ := (hb.cell (World.block_lt_of_cell? _ _ (hHeld.1))).trans (hHeld.1)
                                  have HS1_ := (hb.cell (World.block_lt_of_cell? _ _ (hHeld.2.1))).trans (hHeld.2.1)
                                  have HS2_ := (hb.cell (World.block_lt_of_cell? _ _ (hHeld.2.2.1))).trans (hHeld.2.2.1)
                                  have HS3_ := (hb.cell (World.block_lt_of_cell? _ _ (hHeld.2.2.2.1))).trans (hHeld.2.2.2.1)
                                  have HS4_ := (hb.cell (World.block_lt_of_cell? _ _ (hHeld.2.2.2.2.1))).trans (hHeld.2.2.2.2.1)
                                  have HS5_ := (hb.cell (World.block_lt_of_cell? _ _ (hHeld.2.2.2.2.2.1))).trans (hHeld.2.2.2.2.2.1)
                                  have HS6_ := (hb.cell (World.block_lt_of_cell? _ _ (hHeld.2.2.2.2.2.2.1))).trans (hHeld.2.2.2.2.2.2.1)
                                  have HS7_ := (hb.cell (World.block_lt_of_cell? _ _ (hHeld.2.2.2.2.2.2.2.1))).trans (hHeld.2.2.2.2.2.2.2.1)
                                  have HS8_ := (hb.cell (World.block_lt_of_cell? _ _ (hHeld.2.2.2.2.2.2.2.2.1))).trans (hHeld.2.2.2.2.2.2.2.2.1)
                                  have HS9_ := (hb.cell (World.block_lt_of_cell? _ _ (hHeld.2.2.2.2.2.2.2.2.2.1))).trans (hHeld.2.2.2.2.2.2.2.2.2.1)
                                  have HS10_ := (hb.cell (World.block_lt_of_cell? _ _ (hHeld.2.2.2.2.2.2.2.2.2.2.1))).trans (hHeld.2.2.2.2.2.2.2.2.2.2.1)
                                  have HS11_ := (hb.cell (World.block_lt_of_cell? _ _ (hHeld.2.2.2.2.2.2.2.2.2.2.2.1))).trans (hHeld.2.2.2.2.2.2.2.2.2.2.2.1)
                                  have HS12_ := (hb.cell (World.block_lt_of_cell? _ _ (hHeld.2.2.2.2.2.2.2.2.2.2.2.2.1))).trans (hHeld.2.2.2.2.2.2.2.2.2.2.2.2.1)
                                  have HS13_ := (hb.cell (World.block_lt_of_cell? _ _ (hHeld.2.2.2.2.2.2.2.2.2.2.2.2.2.1))).trans (hHeld.2.2.2.2.2.2.2.2.2.2.2.2.2.1)
                                  have HS14_ := (hb.cell (World.block_lt_of_cell? _ _ (hHeld.2.2.2.2.2.2.2.2.2.2.2.2.2.2.1))).trans (hHeld.2.2.2.2.2.2.2.2.2.2.2.2.2.2.1)
                                  have HS15_ := (hb.cell (World.block_lt_of_cell? _ _ (hHeld.2.2.2.2.2.2.2.2.2.2.2.2.2.2.2.1))).trans (hHeld.2.2.2.2.2.2.2.2.2.2.2.2.2.2.2.1)
                                  have HS16_ := (hb.cell (World.block_lt_of_cell? _ _ (hHeld.2.2.2.2.2.2.2.2.2.2.2.2.2.2.2.2.1))).trans (hHeld.2.2.2.2.2.2.2.2.2.2.2.2.2.2.2.2.1)
                                  have HS17_ := (hb.cell (World.block_lt_of_cell? _ _ (hHeld.2.2.2.2.2.2.2.2.2.2.2.2.2.2.2.2.2.1))).trans (hHeld.2.2.2.2.2.2.2.2.2.2.2.2.2.2.2.2.2.1)
                                  refine ⟨_, rfl, ?_⟩
                                  have n0_ := Aside0.mk (Kd.S_below (by (with_reducible repeat (first | apply Kd.S_alloc | apply Kd.S_drewN | apply Kd.S_drew)); exact HO_9.out) hb)
                                  have n1_ := Aside0.mk (Kd.R_below (by (with_reducible repeat (first | apply Kd.R_alloc | apply Kd.R_drewN | apply Kd.R_drew)); exact HL327_1.out) hb)
                                  have n2_ := Aside0.mk (Kd.R_below (by (with_reducible repeat (first | apply Kd.R_alloc | apply Kd.R_drewN | apply Kd.R_drew)); exact HL327_2.out) hb)
                                  have n3_ := Aside0.mk (Kd.R_below (by (with_reducible repeat (first | apply Kd.R_alloc | apply Kd.R_drewN | apply Kd.R_drew)); exact HL328_1.out) hb)
                                  have n4_ := Aside0.mk (Kd.R_below (by (with_reducible repeat (first | apply Kd.R_alloc | apply Kd.R_drewN | apply Kd.R_drew)); exact HL328_2.out) hb)
                                  have n5_ := Aside0.mk (Kd.R_below (by (with_reducible repeat (first | apply Kd.R_alloc | apply Kd.R_drewN | apply Kd.R_drew)); exact HL329_1.out) hb)
                                  have n6_ := Aside0.mk (Kd.R_below (by (with_reducible repeat (first | apply Kd.R_alloc | apply Kd.R_drewN | apply Kd.R_drew)); exact HL329_2.out) hb)
                                  have n7_ := Aside0.mk (Kd.C_below (by repeat (first | (with_reducible exact HR327_1.out) | (with_reducible refine Kd.C_alloc ?_ _) | (with_reducible refine Kd.C_drewN ?_ _) | (with_reducible refine Kd.C_drew ?_) | exact HR327_1.out)) hb)
                                  have n8_ := Aside0.mk (Kd.C_below (by repeat (first | (with_reducible exact HR327_2.out) | (with_reducible refine Kd.C_alloc ?_ _) | (with_reducible refine Kd.C_drewN ?_ _) | (with_reducible refine Kd.C_drew ?_) | exact HR327_2.out)) hb)
                                  have n9_ := Aside0.mk (Kd.C_below (by repeat (first | (with_reducible exact HR328_1.out) | (with_reducible refine Kd.C_alloc ?_ _) | (with_reducible refine Kd.C_drewN ?_ _) | (with_reducible refine Kd.C_drew ?_) | exact HR328_1.out)) hb)
                                  have n10_ := Aside0.mk (Kd.C_below (by repeat (first | (with_reducible exact HR328_2.out) | (with_reducible refine Kd.C_alloc ?_ _) | (with_reducible refine Kd.C_drewN ?_ _) | (with_reducible refine Kd.C_drew ?_) | exact HR328_2.out)) hb)
                                  have n11_ := Aside0.mk (Kd.C_below (by repeat (first | (with_reducible exact HR329_1.out) | (with_reducible refine Kd.C_alloc ?_ _) | (with_reducible refine Kd.C_drewN ?_ _) | (with_reducible refine Kd.C_drew ?_) | exact HR329_1.out)) hb)
                                  have n12_ := Aside0.mk (Kd.C_below (by repeat (first | (with_reducible exact HR329_2.out) | (with_reducible refine Kd.C_alloc ?_ _) | (with_reducible refine Kd.C_drewN ?_ _) | (with_reducible refine Kd.C_drew ?_) | exact HR329_2.out)) hb)
                                  have n13_ := Aside0.mk (below_step (by repeat (first | (with_reducible first | exact HB.out | apply below_alloc | apply pw_below_drewN | apply below_drew1) | exact HB.out)) hb)
                                  clear HO_9
                                  clear HL327_1
                                  clear HL327_2
                                  clear HL328_1
                                  clear HL328_2
                                  clear HL329_1
                                  clear HL329_2
                                  clear HR327_1
                                  clear HR327_2
                                  clear HR328_1
                                  clear HR328_2
                                  clear HR329_1
                                  clear HR329_2
                                  clear HB
                                  have HO_9 := n0_
                                  have HL327_1 := n1_
                                  have HL327_2 := n2_
                                  have HL328_1 := n3_
                                  have HL328_2 := n4_
                                  have HL329_1 := n5_
                                  have HL329_2 := n6_
                                  have HR327_1 := n7_
                                  have HR327_2 := n8_
                                  have HR328_1 := n9_
                                  have HR328_2 := n10_
                                  have HR329_1 := n11_
                                  have HR329_2 := n12_
                                  have HB := n13_
                                  clear n0_ n1_ n2_ n3_ n4_ n5_ n6_ n7_ n8_ n9_ n10_ n11_ n12_ n13_
                                  (try clear hb)
                                  (try clear hb2)
                                  (try clear hk)
                                  (try clear hi)
                                  refine hK.out _ _ ⟨HS0_, HS1_, HS2_, HS3_, HS4_, HS5_, HS6_, HS7_, HS8_, HS9_, HS10_, HS11_, HS12_, HS13_, HS14_, HS15_, HS16_, HS17_, ((HB.out.cell (World.block_lt_of_cell? w _ hw331_0)).trans hw331_0), ((HB.out.cell (World.block_lt_of_cell? w _ hw331_1)).trans hw331_1), ((HB.out.cell (World.block_lt_of_cell? w _ hw331_2)).trans hw331_2), ((HB.out.cell (World.block_lt_of_cell? w _ hw331_3)).trans hw331_3), ((HB.out.cell (World.block_lt_of_cell? w _ hw331_4)).trans hw331_4), ((HB.out.cell (World.block_lt_of_cell? w _ hw331_5)).trans hw331_5)⟩ (fun hHeld => ?_)
                                  clear hK K
                                  refine norm_ (a' := ?_) ?_ ?_
                                  rotate_left
                                  · show Act.put _ (some 102) _ = _
                                    simp only [Act.put, List.setIfInBounds_toArray, List.set_cons_zero, List.set_cons_succ, i64_w, i32_w]
                                    rfl
                                  refine pure_ (i := 28) (N := some 103) (v := ?_) (a' := ?_) #[true, true, true, true, true, true, true, true, true, true, true, true, true, true, true, true, true, true, true, true, true, true, true, true, true, true, true, true, true, false, false] rfl rfl (any_of HT_.out (by kernel_rfl)) (fun _ _ _ h => h) (Or.inl ⟨by rfl, ?_⟩) ?_ ?_
                                  rotate_left
                                  · intro w'
                                    go_simp
                                    with_reducible rfl
                                  rotate_left
                                  · simp only [Act.put, List.setIfInBounds_toArray, List.set_cons_zero, List.set_cons_succ, i64_w, i32_w]
                                    rfl
                                  refine pure_ (i := 29) (N := some 104) (v := ?_) (a' := ?_) #[true, true, true, true, true, true, true, true, true, true, true, true, true, true, true, true, true, true, true, true, true, true, true, true, true, true, true, true, true, true, false] rfl rfl (any_of HT_.out (by kernel_rfl)) (fun _ _ _ h => h) (Or.inl ⟨by rfl, ?_⟩) ?_ ?_
                                  rotate_left
                                  · intro w'
                                    go_simp
                                    with_reducible rfl
                                  rotate_left
                                  · simp only [Act.put, List.setIfInBounds_toArray, List.set_cons_zero, List.set_cons_succ, i64_w, i32_w]
                                    rfl
                                  refine pure_ (i := 30) (N := some 105) (v := ?_) (a' := ?_) #[true, true, true, true, true, true, true, true, true, true, true, true, true, true, true, true, true, true, true, true, true, true, true, true, true, true, true, true, true, true, true] rfl rfl (any_of HT_.out (by kernel_rfl)) (fun _ _ _ h => h) (Or.inl ⟨by rfl, ?_⟩) ?_ ?_
                                  rotate_left
                                  · intro w'
                                    go_simp
                                    with_reducible rfl
                                  rotate_left
                                  · simp only [Act.put, List.setIfInBounds_toArray, List.set_cons_zero, List.set_cons_succ, i64_w, i32_w]
                                    rfl
                                  refine done_ (done_of HT_.out (by kernel_rfl)) ?_
                                  try go_wp2
                                  go_roundg k1
                                  case measure => have := HK1.out; omega
                                  case rel => exact ⟨(wrap64 (x11_1 + 1)), (wrap64 (x12_1 + 1)), (by first | rfl | (simp; done) | (simp [*]; done)), (by first | rfl | (simp; done) | (simp [*]; done)), H', ⟨by have := HK1.out; omega⟩, ⟨by (with_reducible repeat (first | apply Kd.S_alloc | apply Kd.S_drewN | apply Kd.S_drew)); exact HO_9.out⟩, ⟨by repeat (first | (with_reducible first | exact HB.out | apply below_alloc | apply pw_below_drewN | apply below_drew1) | exact HB.out)⟩⟩
                              · rw [if_neg c29] at H
                                have c29b0 : (((rd_T34 t321 x12_1).f5) == a2) = false := beq_eq_false_iff_ne.mpr c29
                                have c29b1 : (((rd_T34 t321 x12_1).f5) != a2) = true := bne_iff_ne.mpr c29
                                exact absurd H (by simp)
                            · rw [if_neg c28] at H
                              have c28b0 : (((rd_T34 t321 x12_1).f4) == 0) = false := beq_eq_false_iff_ne.mpr c28
                              have c28b1 : (((rd_T34 t321 x12_1).f4) != 0) = true := bne_iff_ne.mpr c28
                              exact absurd H (by simp)
                          · rw [if_neg c27] at H
                            exact absurd H (by simp)
                        · rw [if_neg c26] at H
                          have c26b0 : (((rd_T34 l0 x12_1).f0) == a1) = false := beq_eq_false_iff_ne.mpr c26
                          have c26b1 : (((rd_T34 l0 x12_1).f0) != a1) = true := bne_iff_ne.mpr c26
                          by_cases c36 : x12_1 < (t321.length : Int)
                          · rw [if_pos c36] at H
                            have c36b0 : decide (x12_1 < (t321.length : Int)) = true := decide_eq_true c36
                            clear c36
                            replace H := Option.bind_eq_some_iff.mp H
                            obtain ⟨t335, A370, H⟩ := H
                            replace H : (if t335 = true then (skiarealaw50_AvalancheCalm.l0 k1 l0 a1 a2 l3 t321 x11_1 (wrap64 (x12_1 + 1))) else (none)) = some r := H
                            have A37 := Aside0.mk A370
                            clear A370
                            by_cases c38 : t335 = true
                            · subst c38
                              have H1 : (skiarealaw50_AvalancheCalm.l0 k1 l0 a1 a2 l3 t321 x11_1 (wrap64 (x12_1 + 1))) = some r := by rw [if_pos rfl] at H; exact H
                              clear H
                              have H := H1
                              clear H1
                              have H' := Aside0.mk H
                              clear H
                              have p326 : 0 ≤ (x12_1 : Int) := of_decide_eq_true (by first | (with_reducible assumption) | assumption)
                              have q326 : x12_1 < (l0.length : Int) := of_decide_eq_true (by first | (with_reducible assumption) | assumption)
                              obtain ⟨ad326, A326_1, c326_1, A326_2, c326_2, e326, hx326_0, hx326_1, hx326_2, hx326_3, hx326_4, hx326_5, hl326_1, hi326_1, hl326_2, hi326_2⟩ := at_T34 HR0.out x12_1 p326 q326
                              cases e326
                              replace hx326_0 := (HB.out.cell (World.block_lt_of_cell? w _ hx326_0)).trans hx326_0
                              replace hx326_1 := (HB.out.cell (World.block_lt_of_cell? w _ hx326_1)).trans hx326_1
                              replace hx326_2 := (HB.out.cell (World.block_lt_of_cell? w _ hx326_2)).trans hx326_2
                              replace hx326_3 := (HB.out.cell (World.block_lt_of_cell? w _ hx326_3)).trans hx326_3
                              replace hx326_4 := (HB.out.cell (World.block_lt_of_cell? w _ hx326_4)).trans hx326_4
                              replace hx326_5 := (HB.out.cell (World.block_lt_of_cell? w _ hx326_5)).trans hx326_5
                              have HR326_1 := Aside0.mk hi326_1
                              have HC326_1 := Aside0.mk hl326_1
                              clear hi326_1 hl326_1
                              have HR326_2 := Aside0.mk hi326_2
                              have HC326_2 := Aside0.mk hl326_2
                              clear hi326_2 hl326_2
                              replace p326 := eq_true p326
                              replace q326 := eq_true q326
                              try go_wp2
                              have n0_ := Aside0.mk (Kd.S_drew HO_9.out)
                              have n1_ := Aside0.mk (below_drew1 HB.out)
                              clear HO_9
                              clear HB
                              have HO_9 := n0_
                              have HB := n1_
                              clear n0_ n1_
                              have p333 : 0 ≤ (x12_1 : Int) := of_decide_eq_true (by first | (with_reducible assumption) | assumption)
                              have q333 : x12_1 < (t321.length : Int) := of_decide_eq_true (by first | (with_reducible assumption) | assumption)
                              obtain ⟨ad333, A333_1, c333_1, A333_2, c333_2, e333, hx333_0, hx333_1, hx333_2, hx333_3, hx333_4, hx333_5, hl333_1, hi333_1, hl333_2, hi333_2⟩ := at_T34 (Kd.S_reads' HO_9.out).2.2 x12_1 p333 q333
                              cases e333
                              obtain ⟨ce333, hce333, hMe333, hcc333⟩ := Kd.S_get HO_9.out z34 x12_1 p333 (by first | exact q333 | exact of_decide_eq_true (by first | (with_reducible assumption) | assumption) | (have e_ := (Kd.S_reads' HO_9.out).1; omega))
                              obtain ⟨ve333_1, ve333_2, rfl, ge333_1, ge333_2⟩ := k34_openM hMe333
                              have hv333_1 := hcc333 1 _ rfl
                              rw [add_field _ _ 1 (by omega)] at hv333_1
                              replace hv333_1 := Option.some.inj (hv333_1.symm.trans hx333_1)
                              rw [hv333_1] at ge333_1
                              have HL333_1 := Aside0.mk (show Kd.R (Kd.int .i64) 3 _ _ _ _ ((rd_T34 t321 x12_1).f1) from ge333_1)
                              clear hv333_1 ge333_1
                              have hv333_2 := hcc333 2 _ rfl
                              rw [add_field _ _ 2 (by omega)] at hv333_2
                              replace hv333_2 := Option.some.inj (hv333_2.symm.trans hx333_2)
                              rw [hv333_2] at ge333_2
                              have HL333_2 := Aside0.mk (show Kd.R (Kd.int .i64) 3 _ _ _ _ ((rd_T34 t321 x12_1).f2) from ge333_2)
                              clear hv333_2 ge333_2
                              clear hcc333 hce333
                              have HR333_1 := Aside0.mk hi333_1
                              have HC333_1 := Aside0.mk hl333_1
                              clear hi333_1 hl333_1
                              have HR333_2 := Aside0.mk hi333_2
                              have HC333_2 := Aside0.mk hl333_2
                              clear hi333_2 hl333_2
                              replace p333 := eq_true p333
                              replace q333 := eq_true q333
                              have p334 : 0 ≤ (x12_1 : Int) := of_decide_eq_true (by first | (with_reducible assumption) | assumption)
                              have q334 : x12_1 < (l0.length : Int) := of_decide_eq_true (by first | (with_reducible assumption) | assumption)
                              obtain ⟨ad334, A334_1, c334_1, A334_2, c334_2, e334, hx334_0, hx334_1, hx334_2, hx334_3, hx334_4, hx334_5, hl334_1, hi334_1, hl334_2, hi334_2⟩ := at_T34 HR0.out x12_1 p334 q334
                              have hw334_5 := hx334_5
                              have hw334_4 := hx334_4
                              have hw334_3 := hx334_3
                              have hw334_2 := hx334_2
                              have hw334_1 := hx334_1
                              have hw334_0 := hx334_0
                              obtain rfl : ad326 = ad334 := (by injection e334)
                              replace hx334_0 := (HB.out.cell (World.block_lt_of_cell? w _ hx334_0)).trans hx334_0
                              replace hx334_1 := (HB.out.cell (World.block_lt_of_cell? w _ hx334_1)).trans hx334_1
                              replace hx334_2 := (HB.out.cell (World.block_lt_of_cell? w _ hx334_2)).trans hx334_2
                              replace hx334_3 := (HB.out.cell (World.block_lt_of_cell? w _ hx334_3)).trans hx334_3
                              replace hx334_4 := (HB.out.cell (World.block_lt_of_cell? w _ hx334_4)).trans hx334_4
                              replace hx334_5 := (HB.out.cell (World.block_lt_of_cell? w _ hx334_5)).trans hx334_5
                              have HR334_1 := Aside0.mk hi334_1
                              have HC334_1 := Aside0.mk hl334_1
                              clear hi334_1 hl334_1
                              have HR334_2 := Aside0.mk hi334_2
                              have HC334_2 := Aside0.mk hl334_2
                              clear hi334_2 hl334_2
                              replace p334 := eq_true p334
                              replace q334 := eq_true q334
                              have EA334_1 := Aside0.mk (show A326_1 = A334_1 ∧ c326_1 = c334_1 from by have ea_ := Option.some.inj (hx326_1.symm.trans hx334_1); injection ea_ with ea_ en_ ec_; exact ⟨ea_, ec_⟩)
                              have EA334_2 := Aside0.mk (show A326_2 = A334_2 ∧ c326_2 = c334_2 from by have ea_ := Option.some.inj (hx326_2.symm.trans hx334_2); injection ea_ with ea_ en_ ec_; exact ⟨ea_, ec_⟩)
                              refine start_ (n := 10) (S := fun w' => w'.cell? (ad333.add ((x12_1).toNat * 6)) = some (.int .i64 ((rd_T34 t321 x12_1).f0)) ∧ w'.cell? ⟨(ad333.add ((x12_1).toNat * 6)).block, (ad333.add ((x12_1).toNat * 6)).off + 1, none⟩ = some (.slice A333_1 ((rd_T34 t321 x12_1).f1).length c333_1) ∧ w'.cell? ⟨(ad333.add ((x12_1).toNat * 6)).block, (ad333.add ((x12_1).toNat * 6)).off + 2, none⟩ = some (.slice A333_2 ((rd_T34 t321 x12_1).f2).length c333_2) ∧ w'.cell? ⟨(ad333.add ((x12_1).toNat * 6)).block, (ad333.add ((x12_1).toNat * 6)).off + 3, none⟩ = some (.int .i64 ((rd_T34 t321 x12_1).f3)) ∧ w'.cell? ⟨(ad333.add ((x12_1).toNat * 6)).block, (ad333.add ((x12_1).toNat * 6)).off + 4, none⟩ = some (.int .i64 ((rd_T34 t321 x12_1).f4)) ∧ w'.cell? ⟨(ad333.add ((x12_1).toNat * 6)).block, (ad333.add ((x12_1).toNat * 6)).off + 5, none⟩ = some (.int .i64 ((rd_T34 t321 x12_1).f5)) ∧ w'.cell? (ad326.add ((x12_1).toNat * 6)) = some (.int .i64 ((rd_T34 l0 x12_1).f0)) ∧ w'.cell? ⟨(ad326.add ((x12_1).toNat * 6)).block, (ad326.add ((x12_1).toNat * 6)).off + 1, none⟩ = some (.slice A334_1 ((rd_T34 l0 x12_1).f1).length c334_1) ∧ w'.cell? ⟨(ad326.add ((x12_1).toNat * 6)).block, (ad326.add ((x12_1).toNat * 6)).off + 2, none⟩ = some (.slice A334_2 ((rd_T34 l0 x12_1).f2).length c334_2) ∧ w'.cell? ⟨(ad326.add ((x12_1).toNat * 6)).block, (ad326.add ((x12_1).toNat * 6)).off + 3, none⟩ = some (.int .i64 ((rd_T34 l0 x12_1).f3)) ∧ w'.cell? ⟨(ad326.add ((x12_1).toNat * 6)).block, (ad326.add ((x12_1).toNat * 6)).off + 4, none⟩ = some (.int .i64 ((rd_T34 l0 x12_1).f4)) ∧ w'.cell? ⟨(ad326.add ((x12_1).toNat * 6)).block, (ad326.add ((x12_1).toNat * 6)).off + 5, none⟩ = some (.int .i64 ((rd_T34 l0 x12_1).f5))) (ds := []) #[false, false, false, false, false, false, false, false, false, false] (by kernel_rfl) rfl rfl ⟨hx333_0, hx333_1, hx333_2, hx333_3, hx333_4, hx333_5, ((HB.out.cell (World.block_lt_of_cell? w _ hw334_0)).trans hw334_0), ((HB.out.cell (World.block_lt_of_cell? w _ hw334_1)).trans hw334_1), ((HB.out.cell (World.block_lt_of_cell? w _ hw334_2)).trans hw334_2), ((HB.out.cell (World.block_lt_of_cell? w _ hw334_3)).trans hw334_3), ((HB.out.cell (World.block_lt_of_cell? w _ hw334_4)).trans hw334_4), ((HB.out.cell (World.block_lt_of_cell? w _ hw334_5)).trans hw334_5)⟩ (fun hHeld => ?_); refine with_tabW skiarealaw50_AvalancheCalm.tab15 skiarealaw50_AvalancheCalm.bits15 (fun HT_ HW_ => ?_)
                              generalize wr.drew = w39 at HO_9 HB HL333_1 HL333_2 HR333_1 HR333_2 HR334_1 HR334_2 hx333_0 hx333_1 hx333_2 hx333_3 hx333_4 hx333_5 hx334_0 hx334_1 hx334_2 hx334_3 hx334_4 hx334_5 hHeld ⊢
                              refine pure_ (i := 0) (N := some 63) (v := ?_) (a' := ?_) #[true, false, false, false, false, false, false, false, false, false] rfl rfl (any_of HT_.out (by kernel_rfl)) (fun _ _ _ h => h) (Or.inl ⟨by rfl, ?_⟩) ?_ ?_
                              rotate_left
                              · intro w'
                                go_simp
                                with_reducible rfl
                              rotate_left
                              · simp only [Act.put, List.setIfInBounds_toArray, List.set_cons_zero, List.set_cons_succ, i64_w, i32_w]
                                rfl
                              refine pure_ (i := 1) (N := some 64) (v := ?_) (a' := ?_) #[true, true, false, false, false, false, false, false, false, false] rfl rfl (any_of HT_.out (by kernel_rfl)) (fun _ _ _ h => h) (Or.inl ⟨by rfl, ?_⟩) ?_ ?_
                              rotate_left
                              · intro w'
                                go_simp
                                with_reducible rfl
                              rotate_left
                              · simp only [Act.put, List.setIfInBounds_toArray, List.set_cons_zero, List.set_cons_succ, i64_w, i32_w]
                                rfl
                              refine pure_ (i := 2) (N := some 65) (v := ?_) (a' := ?_) #[true, true, true, false, false, false, false, false, false, false] rfl rfl (any_of HT_.out (by kernel_rfl)) (fun _ _ _ h => h) (Or.inl ⟨by rfl, ?_⟩) ?_ ?_
                              rotate_left
                              · intro w'
                                go_simp
                                with_reducible rfl
                              rotate_left
                              · simp only [Act.put, List.setIfInBounds_toArray, List.set_cons_zero, List.set_cons_succ, i64_w, i32_w]
                                rfl
                              refine pure_ (i := 4) (N := some 67) (v := ?_) (a' := ?_) #[true, true, true, false, true, false, false, false, false, false] rfl rfl (any_of HT_.out (by kernel_rfl)) (fun _ _ _ h => h) (Or.inl ⟨by rfl, ?_⟩) ?_ ?_
                              rotate_left
                              · intro w'
                                go_simp
                                with_reducible rfl
                              rotate_left
                              · simp only [Act.put, List.setIfInBounds_toArray, List.set_cons_zero, List.set_cons_succ, i64_w, i32_w]
                                rfl
                              refine pure_ (i := 5) (N := some 68) (v := ?_) (a' := ?_) #[true, true, true, false, true, true, false, false, false, false] rfl rfl (any_of HT_.out (by kernel_rfl)) (fun _ _ _ h => h) (Or.inl ⟨by rfl, ?_⟩) ?_ ?_
                              rotate_left
                              · intro w'
                                go_simp
                                with_reducible rfl
                              rotate_left
                              · simp only [Act.put, List.setIfInBounds_toArray, List.set_cons_zero, List.set_cons_succ, i64_w, i32_w]
                                rfl
                              refine pure_ (i := 6) (N := some 69) (v := ?_) (a' := ?_) #[true, true, true, false, true, true, true, false, false, false] rfl rfl (any_of HT_.out (by kernel_rfl)) (fun _ _ _ h => h) (Or.inl ⟨by rfl, ?_⟩) ?_ ?_
                              rotate_left
                              · intro w'
                                go_simp
                                with_reducible rfl
                              rotate_left
                              · simp only [Act.put, List.setIfInBounds_toArray, List.set_cons_zero, List.set_cons_succ, i64_w, i32_w]
                                rfl
                              refine take_ (i := 3) (N := some 66) (v := ?_) (a' := ?_) #[true, true, true, true, true, true, true, false, false, false] rfl rfl (take_ofW HT_.out HW_.out (by kernel_rfl)) (fun _ _ _ h => h) (Or.inl ⟨by rfl, ?_⟩) hHeld ?_ ?_
                              rotate_left
                              · rintro w' ⟨s0, s1, s2, s3, s4, s5, s6, s7, s8, s9, s10, s11⟩
                                go_simp
                                with_reducible rfl
                              rotate_left
                              · simp only [Act.put, List.setIfInBounds_toArray, List.set_cons_zero, List.set_cons_succ, i64_w, i32_w]
                                rfl
                              refine take_ (i := 7) (N := some 70) (v := ?_) (a' := ?_) #[true, true, true, true, true, true, true, true, false, false] rfl rfl (take_ofW HT_.out HW_.out (by kernel_rfl)) (fun _ _ _ h => h) (Or.inl ⟨by rfl, ?_⟩) hHeld ?_ ?_
                              rotate_left
                              · rintro w' ⟨s0, s1, s2, s3, s4, s5, s6, s7, s8, s9, s10, s11⟩
                                go_simp
                                with_reducible rfl
                              rotate_left
                              · simp only [Act.put, List.setIfInBounds_toArray, List.set_cons_zero, List.set_cons_succ, i64_w, i32_w]
                                rfl
                              refine one_ (i := 8) (N := some 71) #[true, true, true, true, true, true, true, true, true, false] rfl rfl (one_of HT_.out (by kernel_rfl)) (by decide) (fun K hK => ?_)
                              refine goes_ Try.func30 (by kernel_rfl) rfl #[.agg #[.int .i64 ((rd_T34 t321 x12_1).f0), .slice A333_1 ((rd_T34 t321 x12_1).f1).length c333_1, .slice A333_2 ((rd_T34 t321 x12_1).f2).length c333_2, .int .i64 ((rd_T34 t321 x12_1).f3), .int .i64 ((rd_T34 t321 x12_1).f4), .int .i64 ((rd_T34 t321 x12_1).f5)], .agg #[.int .i64 ((rd_T34 l0 x12_1).f0), .slice A334_1 ((rd_T34 l0 x12_1).f1).length c334_1, .slice A334_2 ((rd_T34 l0 x12_1).f2).length c334_2, .int .i64 ((rd_T34 l0 x12_1).f3), .int .i64 ((rd_T34 l0 x12_1).f4), .int .i64 ((rd_T34 l0 x12_1).f5)]] (by rfl) rfl rfl (by (try simp only [List.map_toArray, List.map_cons, List.map_nil]); first | done | rfl | (simp only [EA334_1.out.1, EA334_1.out.2, EA334_2.out.1, EA334_2.out.2]; rfl) | (simp only [List.length_drop, List.length_take]; rfl)) ?_
                              with_reducible refine (skiarearef50_SameOne.calls k1 ((rd_T34 t321 x12_1).f0) _ _ ((rd_T34 t321 x12_1).f1) _ _ ((rd_T34 t321 x12_1).f2) ((rd_T34 t321 x12_1).f3) ((rd_T34 t321 x12_1).f4) ((rd_T34 t321 x12_1).f5) ((rd_T34 l0 x12_1).f0) _ _ ((rd_T34 l0 x12_1).f1) _ _ ((rd_T34 l0 x12_1).f2) ((rd_T34 l0 x12_1).f3) ((rd_T34 l0 x12_1).f4) ((rd_T34 l0 x12_1).f5) true _ ?side1 ?side2 ?side3 ?side4 ?side5 ?side6 ?side7 ?side8 A37.out).mono ?_
                              (case side1 => repeat (first | exact (by repeat (first | (with_reducible exact HR333_1.out) | (with_reducible refine Kd.C_alloc ?_ _) | (with_reducible refine Kd.C_drewN ?_ _) | (with_reducible refine Kd.C_drew ?_) | exact HR333_1.out)) | (with_reducible refine Kd.C_alloc ?_ _) | (with_reducible refine Kd.C_drewN ?_ _) | (with_reducible refine Kd.C_drew ?_)))
                              (case side2 => exact HC333_1.out)
                              (case side3 => repeat (first | exact (by repeat (first | (with_reducible exact HR333_2.out) | (with_reducible refine Kd.C_alloc ?_ _) | (with_reducible refine Kd.C_drewN ?_ _) | (with_reducible refine Kd.C_drew ?_) | exact HR333_2.out)) | (with_reducible refine Kd.C_alloc ?_ _) | (with_reducible refine Kd.C_drewN ?_ _) | (with_reducible refine Kd.C_drew ?_)))
                              (case side4 => exact HC333_2.out)
                              (case side5 => repeat (first | exact (Kd.C_below HR334_1.out HB.out) | (with_reducible refine Kd.C_alloc ?_ _) | (with_reducible refine Kd.C_drewN ?_ _) | (with_reducible refine Kd.C_drew ?_)))
                              (case side6 => exact HC334_1.out)
                              (case side7 => repeat (first | exact (Kd.C_below HR334_2.out HB.out) | (with_reducible refine Kd.C_alloc ?_ _) | (with_reducible refine Kd.C_drewN ?_ _) | (with_reducible refine Kd.C_drew ?_)))
                              (case side8 => exact HC334_2.out)
                              rintro e w40 ⟨rfl, hb⟩
                              have HS0_ := (hb.cell (World.block_lt_of_cell? _ _ (hHeld.1))).trans (hHeld.1)
                              have HS1_ := (hb.cell (World.block_lt_of_cell? _ _ (hHeld.2.1))).trans (hHeld.2.1)
                              have HS2_ := (hb.cell (World.block_lt_of_cell? _ _ (hHeld.2.2.1))).trans (hHeld.2.2.1)
                              have HS3_ := (hb.cell (World.block_lt_of_cell? _ _ (hHeld.2.2.2.1))).trans (hHeld.2.2.2.1)
                              have HS4_ := (hb.cell (World.block_lt_of_cell? _ _ (hHeld.2.2.2.2.1))).trans (hHeld.2.2.2.2.1)
                              have HS5_ := (hb.cell (World.block_lt_of_cell? _ _ (hHeld.2.2.2.2.2.1))).trans (hHeld.2.2.2.2.2.1)
                              refine ⟨_, rfl, ?_⟩
                              have n0_ := Aside0.mk (Kd.S_below (by (with_reducible repeat (first | apply Kd.S_alloc | apply Kd.S_drewN | apply Kd.S_drew)); exact HO_9.out) hb)
                              have n1_ := Aside0.mk (Kd.R_below (by (with_reducible repeat (first | apply Kd.R_alloc | apply Kd.R_drewN | apply Kd.R_drew)); exact HL333_1.out) hb)
                              have n2_ := Aside0.mk (Kd.R_below (by (with_reducible repeat (first | apply Kd.R_alloc | apply Kd.R_drewN | apply Kd.R_drew)); exact HL333_2.out) hb)
                              have n3_ := Aside0.mk (Kd.C_below (by repeat (first | (with_reducible exact HR333_1.out) | (with_reducible refine Kd.C_alloc ?_ _) | (with_reducible refine Kd.C_drewN ?_ _) | (with_reducible refine Kd.C_drew ?_) | exact HR333_1.out)) hb)
                              have n4_ := Aside0.mk (Kd.C_below (by repeat (first | (with_reducible exact HR333_2.out) | (with_reducible refine Kd.C_alloc ?_ _) | (with_reducible refine Kd.C_drewN ?_ _) | (with_reducible refine Kd.C_drew ?_) | exact HR333_2.out)) hb)
                              have n5_ := Aside0.mk (below_step (by repeat (first | (with_reducible first | exact HB.out | apply below_alloc | apply pw_below_drewN | apply below_drew1) | exact HB.out)) hb)
                              clear HO_9
                              clear HL333_1
                              clear HL333_2
                              clear HR333_1
                              clear HR333_2
                              clear HB
                              have HO_9 := n0_
                              have HL333_1 := n1_
                              have HL333_2 := n2_
                              have HR333_1 := n3_
                              have HR333_2 := n4_
                              have HB := n5_
                              clear n0_ n1_ n2_ n3_ n4_ n5_
                              (try clear hb)
                              (try clear hb2)
                              (try clear hk)
                              (try clear hi)
                              refine hK.out _ _ ⟨HS0_, HS1_, HS2_, HS3_, HS4_, HS5_, ((HB.out.cell (World.block_lt_of_cell? w _ hw334_0)).trans hw334_0), ((HB.out.cell (World.block_lt_of_cell? w _ hw334_1)).trans hw334_1), ((HB.out.cell (World.block_lt_of_cell? w _ hw334_2)).trans hw334_2), ((HB.out.cell (World.block_lt_of_cell? w _ hw334_3)).trans hw334_3), ((HB.out.cell (World.block_lt_of_cell? w _ hw334_4)).trans hw334_4), ((HB.out.cell (World.block_lt_of_cell? w _ hw334_5)).trans hw334_5)⟩ (fun hHeld => ?_)
                              clear hK K
                              refine norm_ (a' := ?_) ?_ ?_
                              rotate_left
                              · show Act.put _ (some 71) _ = _
                                simp only [Act.put, List.setIfInBounds_toArray, List.set_cons_zero, List.set_cons_succ, i64_w, i32_w]
                                rfl
                              refine pure_ (i := 9) (N := some 72) (v := ?_) (a' := ?_) #[true, true, true, true, true, true, true, true, true, true] rfl rfl (any_of HT_.out (by kernel_rfl)) (fun _ _ _ h => h) (Or.inl ⟨by rfl, ?_⟩) ?_ ?_
                              rotate_left
                              · intro w'
                                go_simp
                                with_reducible rfl
                              rotate_left
                              · simp only [Act.put, List.setIfInBounds_toArray, List.set_cons_zero, List.set_cons_succ, i64_w, i32_w]
                                rfl
                              refine done_ (done_of HT_.out (by kernel_rfl)) ?_
                              try go_wp2
                              go_roundg k1
                              case measure => have := HK1.out; omega
                              case rel => exact ⟨(x11_1), (wrap64 (x12_1 + 1)), (by first | rfl | (simp; done) | (simp [*]; done)), (by first | rfl | (simp; done) | (simp [*]; done)), H', ⟨by have := HK1.out; omega⟩, ⟨by (with_reducible repeat (first | apply Kd.S_alloc | apply Kd.S_drewN | apply Kd.S_drew)); exact HO_9.out⟩, ⟨by repeat (first | (with_reducible first | exact HB.out | apply below_alloc | apply pw_below_drewN | apply below_drew1) | exact HB.out)⟩⟩
                            · replace c38 := Bool.eq_false_iff.mpr c38
                              subst c38
                              have H1 : (none) = some r := by rw [if_neg (show ¬ (false = true) by decide)] at H; exact H
                              clear H
                              have H := H1
                              clear H1
                              exact absurd H (by simp)
                          · rw [if_neg c36] at H
                            exact absurd H (by simp)
                      · rw [if_neg c25] at H
                        exact absurd H (by simp)
                    · rw [if_neg c24] at H
                      have c24b0 : decide (x12_1 < (l0.length : Int)) = false := decide_eq_false c24
                      clear c24
                      obtain rfl := Option.some.inj H
                      go_wp2
                      go_ret
                      exact ⟨by first | rfl | (simp [errW_none, errW_some] <;> rfl) | (simp [*, errW_none, errW_some] <;> rfl), by repeat (first | (with_reducible first | exact HB.out | apply below_alloc | apply pw_below_drewN | apply below_drew1) | exact HB.out)⟩
              · rw [if_neg c18] at H
                exact absurd H (by simp)
            · rw [if_neg c16] at H
              exact absurd H (by simp)
          · rw [if_neg c15] at H
            have c15b0 : (t322 == 0) = false := beq_eq_false_iff_ne.mpr c15
            have c15b1 : (t322 != 0) = true := bne_iff_ne.mpr c15
            obtain rfl := Option.some.inj H
            go_enter Try.func8, Try.ntmps8
            go_wp2_with (first | ((with_reducible refine gate_callee (f := 10) rfl ?_); refine goesL_ (some 13) rfl rfl Try.func10 (by kernel_rfl) rfl #[] rfl (by (try simp only [List.map_toArray, List.map_cons, List.map_nil]); first | done | rfl | (simp only [List.length_drop, List.length_take]; rfl)) ?_; (with_reducible refine (skiarealaw50_alive.calls  true _ A5.out).mono ?_); rintro e w41 ⟨rfl, hb⟩; refine ⟨_, rfl, ?_⟩; have n0_ := Aside0.mk (below_step (by repeat (first | (with_reducible first | exact HB.out | apply below_alloc | apply pw_below_drewN | apply below_drew1) | exact HB.out)) hb); clear HB; have HB := n0_; clear n0_; (try clear hb); (try clear hb2); (try clear hk); (try clear hi)) | ((with_reducible refine gate_callee (f := 11) rfl ?_); refine goesL_ (some 16) rfl rfl Try.func11 (by kernel_rfl) rfl #[.slice A0 l0.length c0] rfl (by (try simp only [List.map_toArray, List.map_cons, List.map_nil]); first | done | rfl | (simp only [List.length_drop, List.length_take]; rfl)) ?_; (with_reducible refine (skiarealaw50_small.calls k _ _ l0 true _ ?side1 ?side2 A7.out).mono ?_); (case side1 => repeat (first | exact (Kd.C_below HR0.out HB.out) | (with_reducible refine Kd.C_alloc ?_ _) | (with_reducible refine Kd.C_drewN ?_ _) | (with_reducible refine Kd.C_drew ?_))); (case side2 => exact HC0.out); rintro e w' ⟨rfl, ⟨nd, rfl⟩⟩; refine ⟨_, rfl, ?_⟩) | (go_at_call 12; (with_reducible refine (avalanche_Right.calls k _ _ l0 t320 _ ?side1 ?side2 A9.out).mono ?_); (case side1 => repeat (first | exact (Kd.C_below HR0.out (by repeat (first | (with_reducible first | exact HB.out | apply below_alloc | apply pw_below_drewN | apply below_drew1) | exact HB.out))) | (with_reducible refine Kd.C_alloc ?_ _) | (with_reducible refine Kd.C_drewN ?_ _) | (with_reducible refine Kd.C_drew ?_))); (case side2 => exact HC0.out); rintro e w42 ⟨rfl, hb⟩; have n0_ := Aside0.mk (below_step (by repeat (first | (with_reducible first | exact HB.out | apply below_alloc | apply pw_below_drewN | apply below_drew1) | exact HB.out)) hb); clear HB; have HB := n0_; clear n0_; (try clear hb); (try clear hb2); (try clear hk); (try clear hi)) | ((with_reducible refine gate_callee (f := 18) rfl ?_); refine goesL_ (some 32) rfl rfl Try.func18 (by kernel_rfl) rfl #[.slice A0 l0.length c0, .int .i64 a1, .int .i64 a2] rfl (by (try simp only [List.map_toArray, List.map_cons, List.map_nil]); first | done | rfl | (simp only [List.length_drop, List.length_take]; rfl)) ?_; (with_reducible refine (avalanche_Control.calls _ _ l0 a1 a2 t321 t322 _ ?side1 ?side2 A14.out).mono ?_); (case side1 => repeat (first | exact (Kd.C_below HR0.out HB.out) | (with_reducible refine Kd.C_alloc ?_ _) | (with_reducible refine Kd.C_drewN ?_ _) | (with_reducible refine Kd.C_drew ?_))); (case side2 => exact HC0.out); rintro e w43 ⟨v323, rfl, ho0, hb⟩; refine ⟨_, rfl, ?_⟩; have n0_ := Aside0.mk (Kd.S_lower ho0 (below_size (by repeat (first | (with_reducible first | exact HB.out | apply below_alloc | apply pw_below_drewN | apply below_drew1) | exact HB.out)))); have n1_ := Aside0.mk (below_step (by repeat (first | (with_reducible first | exact HB.out | apply below_alloc | apply pw_below_drewN | apply below_drew1) | exact HB.out)) hb); clear HB; have HO324 := n0_; have HB := n1_; clear n0_ n1_; (try clear hb); (try clear hb2); (try clear hk); (try clear hi); (try clear ho0); obtain ⟨Ao44, co44, eo44⟩ := Kd.S_slice HO324.out; subst eo44))
            go_ret
            exact ⟨by first | rfl | (simp [errW_none, errW_some] <;> rfl) | (simp [*, errW_none, errW_some] <;> rfl), by repeat (first | (with_reducible first | exact HB.out | apply below_alloc | apply pw_below_drewN | apply below_drew1) | exact HB.out)⟩
      · rw [if_neg c10] at H
        have c10b0 : (t320 == 0) = false := beq_eq_false_iff_ne.mpr c10
        have c10b1 : (t320 != 0) = true := bne_iff_ne.mpr c10
        obtain rfl := Option.some.inj H
        go_enter Try.func8, Try.ntmps8
        go_wp2_with (first | ((with_reducible refine gate_callee (f := 10) rfl ?_); refine goesL_ (some 13) rfl rfl Try.func10 (by kernel_rfl) rfl #[] rfl (by (try simp only [List.map_toArray, List.map_cons, List.map_nil]); first | done | rfl | (simp only [List.length_drop, List.length_take]; rfl)) ?_; (with_reducible refine (skiarealaw50_alive.calls  true _ A5.out).mono ?_); rintro e w45 ⟨rfl, hb⟩; refine ⟨_, rfl, ?_⟩; have n0_ := Aside0.mk (below_step (by repeat (first | (with_reducible first | exact HB.out | apply below_alloc | apply pw_below_drewN | apply below_drew1) | exact HB.out)) hb); clear HB; have HB := n0_; clear n0_; (try clear hb); (try clear hb2); (try clear hk); (try clear hi)) | ((with_reducible refine gate_callee (f := 11) rfl ?_); refine goesL_ (some 16) rfl rfl Try.func11 (by kernel_rfl) rfl #[.slice A0 l0.length c0] rfl (by (try simp only [List.map_toArray, List.map_cons, List.map_nil]); first | done | rfl | (simp only [List.length_drop, List.length_take]; rfl)) ?_; (with_reducible refine (skiarealaw50_small.calls k _ _ l0 true _ ?side1 ?side2 A7.out).mono ?_); (case side1 => repeat (first | exact (Kd.C_below HR0.out HB.out) | (with_reducible refine Kd.C_alloc ?_ _) | (with_reducible refine Kd.C_drewN ?_ _) | (with_reducible refine Kd.C_drew ?_))); (case side2 => exact HC0.out); rintro e w' ⟨rfl, ⟨nd, rfl⟩⟩; refine ⟨_, rfl, ?_⟩) | (go_at_call 12; (with_reducible refine (avalanche_Right.calls k _ _ l0 t320 _ ?side1 ?side2 A9.out).mono ?_); (case side1 => repeat (first | exact (Kd.C_below HR0.out (by repeat (first | (with_reducible first | exact HB.out | apply below_alloc | apply pw_below_drewN | apply below_drew1) | exact HB.out))) | (with_reducible refine Kd.C_alloc ?_ _) | (with_reducible refine Kd.C_drewN ?_ _) | (with_reducible refine Kd.C_drew ?_))); (case side2 => exact HC0.out); rintro e w46 ⟨rfl, hb⟩; have n0_ := Aside0.mk (below_step (by repeat (first | (with_reducible first | exact HB.out | apply below_alloc | apply pw_below_drewN | apply below_drew1) | exact HB.out)) hb); clear HB; have HB := n0_; clear n0_; (try clear hb); (try clear hb2); (try clear hk); (try clear hi)))
        go_ret
        exact ⟨by first | rfl | (simp [errW_none, errW_some] <;> rfl) | (simp [*, errW_none, errW_some] <;> rfl), by repeat (first | (with_reducible first | exact HB.out | apply below_alloc | apply pw_below_drewN | apply below_drew1) | exact HB.out)⟩
    · replace c8 := Bool.eq_false_iff.mpr c8
      subst c8
      have H1 : (some true) = some r := by rw [if_neg (show ¬ (false = true) by decide)] at H; exact H
      clear H
      have H := H1
      clear H1
      obtain rfl := Option.some.inj H
      go_enter Try.func8, Try.ntmps8
      go_wp2_with (first | ((with_reducible refine gate_callee (f := 10) rfl ?_); refine goesL_ (some 13) rfl rfl Try.func10 (by kernel_rfl) rfl #[] rfl (by (try simp only [List.map_toArray, List.map_cons, List.map_nil]); first | done | rfl | (simp only [List.length_drop, List.length_take]; rfl)) ?_; (with_reducible refine (skiarealaw50_alive.calls  true _ A5.out).mono ?_); rintro e w47 ⟨rfl, hb⟩; refine ⟨_, rfl, ?_⟩; have n0_ := Aside0.mk (below_step (by repeat (first | (with_reducible first | exact HB.out | apply below_alloc | apply pw_below_drewN | apply below_drew1) | exact HB.out)) hb); clear HB; have HB := n0_; clear n0_; (try clear hb); (try clear hb2); (try clear hk); (try clear hi)) | ((with_reducible refine gate_callee (f := 11) rfl ?_); refine goesL_ (some 16) rfl rfl Try.func11 (by kernel_rfl) rfl #[.slice A0 l0.length c0] rfl (by (try simp only [List.map_toArray, List.map_cons, List.map_nil]); first | done | rfl | (simp only [List.length_drop, List.length_take]; rfl)) ?_; (with_reducible refine (skiarealaw50_small.calls k _ _ l0 false _ ?side1 ?side2 A7.out).mono ?_); (case side1 => repeat (first | exact (Kd.C_below HR0.out HB.out) | (with_reducible refine Kd.C_alloc ?_ _) | (with_reducible refine Kd.C_drewN ?_ _) | (with_reducible refine Kd.C_drew ?_))); (case side2 => exact HC0.out); rintro e w' ⟨rfl, ⟨nd, rfl⟩⟩; refine ⟨_, rfl, ?_⟩))
      go_ret
      exact ⟨by first | rfl | (simp [errW_none, errW_some] <;> rfl) | (simp [*, errW_none, errW_some] <;> rfl), by repeat (first | (with_reducible first | exact HB.out | apply below_alloc | apply pw_below_drewN | apply below_drew1) | exact HB.out)⟩
  · replace c6 := Bool.eq_false_iff.mpr c6
    subst c6
    have H1 : (none) = some r := by rw [if_neg (show ¬ (false = true) by decide)] at H; exact H
    clear H
    have H := H1
    clear H1
    exact absurd H (by simp)

end Go.Proofs.Ytfjnpdgjigkbcaa.PAll
