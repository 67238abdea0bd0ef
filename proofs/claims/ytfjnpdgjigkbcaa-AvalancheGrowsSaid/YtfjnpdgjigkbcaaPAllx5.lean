/- What each of these functions computes, and its contract over the machine: printed by a program out of the translation. No condition but those that each theorem states. -/
import Derived.Test.YtfjnpdgjigkbcaaPAllx0
import Derived.Test.YtfjnpdgjigkbcaaPAllx4
import Derived.Test.YtfjnpdgjigkbcaaGBase
namespace Go.Proofs.Ytfjnpdgjigkbcaa.PAll
open Go.RowKit Go.Proofs.YtfjnpdgjigkbcaaW.PrintWords Go.Proofs.YtfjnpdgjigkbcaaW.PrintLast Go.Proofs.YtfjnpdgjigkbcaaW.PrintMore
attribute [local go_sem] max2_int min2_int max_two min_two max_three min_three max_four min_four   -- for this text's walks alone
set_option linter.unusedVariables false
set_option linter.unusedSimpArgs false

/-! ### avalanche_Right: function 12 -/
mutual
def avalanche_Right.l0 : Nat → List (S34) → List (S34) → Int → Int → Option (Int)
  | 0, _, _, _, _ => none
  | k + 1, x0, x8, x9, x10 => if x10 < x9 then (if 0 ≤ x10 then (if x10 < (x8.length : Int) then ((avalanche_within.f ((rd_T34 x8 x10).f0) 1 9999).bind fun t117 => (if t117 = true then ((avalanche_within.f ((rd_T34 x8 x10).f3) 4 100000).bind fun t118 => (if t118 = true then ((avalanche_within.f ((rd_T34 x8 x10).f4) 0 100000).bind fun t119 => (if t119 = true then ((avalanche_within.f ((rd_T34 x8 x10).f5) (-1) 20000000).bind fun t120 => (avalanche_Right.j1 k x0 x10 x8 x9 x10 (!t120) ((rd_T34 x8 x10).f0) ((rd_T34 x8 x10).f1) ((rd_T34 x8 x10).f2) ((rd_T34 x8 x10).f3) ((rd_T34 x8 x10).f4) ((rd_T34 x8 x10).f5))) else (avalanche_Right.j1 k x0 x10 x8 x9 x10 true ((rd_T34 x8 x10).f0) ((rd_T34 x8 x10).f1) ((rd_T34 x8 x10).f2) ((rd_T34 x8 x10).f3) ((rd_T34 x8 x10).f4) ((rd_T34 x8 x10).f5)))) else (avalanche_Right.j1 k x0 x10 x8 x9 x10 true ((rd_T34 x8 x10).f0) ((rd_T34 x8 x10).f1) ((rd_T34 x8 x10).f2) ((rd_T34 x8 x10).f3) ((rd_T34 x8 x10).f4) ((rd_T34 x8 x10).f5)))) else (avalanche_Right.j1 k x0 x10 x8 x9 x10 true ((rd_T34 x8 x10).f0) ((rd_T34 x8 x10).f1) ((rd_T34 x8 x10).f2) ((rd_T34 x8 x10).f3) ((rd_T34 x8 x10).f4) ((rd_T34 x8 x10).f5)))) else (none)) else (none)) else (some 0)
def avalanche_Right.j1 : Nat → List (S34) → Int → List (S34) → Int → Int → Bool → Int → List Int → List Int → Int → Int → Int → Option (Int)
  | 0, _, _, _, _, _, _, _, _, _, _, _, _ => none
  | k + 1, x0, x3, x8, x9, x10, x15, x117000, x117001, x117002, x117003, x117004, x117005 => if x15 = true then (some 2) else (if 0 ≤ x3 then (if x3 ≤ (x0.length : Int) then ((avalanche_find.f (x0.take (x3 : Int).toNat) x117000).bind fun t125 => (if t125 ≥ 0 then (some 7) else (if (x117001.length : Int) = 0 then (some 1) else ((avalanche_rising.f k x117001 32).bind fun t126 => (if t126 = true then ((avalanche_rising.f k x117002 9999).bind fun t127 => (if t127 = true then (avalanche_Right.l0 k x0 x8 x9 (wrap64 (x10 + 1))) else (some 1))) else (some 1)))))) else (none)) else (none))
end
def avalanche_Right.f (k : Nat) (l0 : List (S34)) : Option (Int) := if (l0.length : Int) > 32 then (some 4) else (avalanche_Right.l0 k l0 l0 (l0.length : Int) 0)
theorem avalanche_Right.mono_l : ∀ k, (∀ y0 y1 y2 y3, LeO (avalanche_Right.l0 k y0 y1 y2 y3) (avalanche_Right.l0 (k + 1) y0 y1 y2 y3)) ∧ (∀ y0 y1 y2 y3 y4 y5 y6 y7 y8 y9 y10 y11, LeO (avalanche_Right.j1 k y0 y1 y2 y3 y4 y5 y6 y7 y8 y9 y10 y11) (avalanche_Right.j1 (k + 1) y0 y1 y2 y3 y4 y5 y6 y7 y8 y9 y10 y11))
  | 0 => ⟨fun _ _ _ _ r h => by simp [avalanche_Right.l0] at h, fun _ _ _ _ _ _ _ _ _ _ _ _ r h => by simp [avalanche_Right.j1] at h⟩
  | k + 1 => by
    obtain ⟨ih0, ih1⟩ := avalanche_Right.mono_l k
    refine ⟨?_, ?_⟩
    · intro y0 y1 y2 y3
      unfold avalanche_Right.l0
      repeat' first
      | (with_reducible exact ih0 _ _ _ _)
      | (with_reducible exact ih1 _ _ _ _ _ _ _ _ _ _ _ _)
      | (with_reducible exact avalanche_rising.mono _ _ _)
      | (with_reducible exact LeO.refl _)
      | (with_reducible exact LeO.none _)
      | (with_reducible refine LeO.ite ?_ ?_)
      | (with_reducible refine LeO.bind ?_ (fun _ => ?_))
      | exact ih0 _ _ _ _
      | exact ih1 _ _ _ _ _ _ _ _ _ _ _ _
      | exact avalanche_rising.mono _ _ _
      | exact LeO.none _
      | refine LeO.ite ?_ ?_
      | refine LeO.bind ?_ (fun _ => ?_)
    · intro y0 y1 y2 y3 y4 y5 y6 y7 y8 y9 y10 y11
      unfold avalanche_Right.j1
      repeat' first
      | (with_reducible exact ih0 _ _ _ _)
      | (with_reducible exact ih1 _ _ _ _ _ _ _ _ _ _ _ _)
      | (with_reducible exact avalanche_rising.mono _ _ _)
      | (with_reducible exact LeO.refl _)
      | (with_reducible exact LeO.none _)
      | (with_reducible refine LeO.ite ?_ ?_)
      | (with_reducible refine LeO.bind ?_ (fun _ => ?_))
      | exact ih0 _ _ _ _
      | exact ih1 _ _ _ _ _ _ _ _ _ _ _ _
      | exact avalanche_rising.mono _ _ _
      | exact LeO.none _
      | refine LeO.ite ?_ ?_
      | refine LeO.bind ?_ (fun _ => ?_)
theorem avalanche_Right.mono : ∀ a0 k, LeO (avalanche_Right.f k a0) (avalanche_Right.f (k + 1) a0) := by
  intro a0 k
  obtain ⟨ih0, ih1⟩ := avalanche_Right.mono_l k
  unfold avalanche_Right.f
  repeat' first
      | (with_reducible exact ih0 _ _ _ _)
      | (with_reducible exact ih1 _ _ _ _ _ _ _ _ _ _ _ _)
      | (with_reducible exact avalanche_rising.mono _ _ _)
      | (with_reducible exact LeO.refl _)
      | (with_reducible exact LeO.none _)
      | (with_reducible refine LeO.ite ?_ ?_)
      | (with_reducible refine LeO.bind ?_ (fun _ => ?_))
      | exact ih0 _ _ _ _
      | exact ih1 _ _ _ _ _ _ _ _ _ _ _ _
      | exact avalanche_rising.mono _ _ _
      | exact LeO.none _
      | refine LeO.ite ?_ ?_
      | refine LeO.bind ?_ (fun _ => ?_)
def avalanche_Right.T8 : Bool × List (List Nat × List Nat) := (true, [([], []), ([], []), ([0, 1], [0, 1]), ([], []), ([3], [3]), ([2, 4], [2, 4]), ([5], [5]), ([6, 5], [6])])
def avalanche_Right.B8 : List Nat := [0, 0, 3, 0, 8, 31, 63, 127]
theorem avalanche_Right.tab8 : rtab .any (opsOf Try.f12 8) = avalanche_Right.T8 := by kernel_rfl
theorem avalanche_Right.bits8 : waitsOk avalanche_Right.T8.2 avalanche_Right.B8 = true := by kernel_rfl
set_option maxHeartbeats 8000000 in
set_option maxRecDepth 100000 in
theorem avalanche_Right.calls (k : Nat) (A0 : Option Addr) (c0 : Nat) (l0 : List (S34)) (r : Int) (w : World) (hr0 : Kd.C k34 w A0 l0.length l0) (hc0 : l0.length ≤ c0) (h : avalanche_Right.f k l0 = some r) :
    Calls Try.prog 12 #[.slice A0 l0.length c0] w fun e w' => e = .returned (.int .i64 r) ∧ Below w.heap.size w w' := by
  have hu34 := Try.underlying34
  have HR0 := Aside0.mk hr0
  have HC0 := Aside0.mk hc0
  clear hr0 hc0
  have HB := Aside0.mk (Below.refl w.heap.size w)
  have H : (if (l0.length : Int) > 32 then (some 4) else (avalanche_Right.l0 k l0 l0 (l0.length : Int) 0)) = some r := h
  clear h
  by_cases c2 : (l0.length : Int) > 32
  · rw [if_pos c2] at H
    have c2b0 : decide (32 < (l0.length : Int)) = true := decide_eq_true c2
    have c2b1 : decide (32 < l0.length) = true := decide_eq_true (by omega)
    clear c2
    obtain rfl := Option.some.inj H
    go_enter Try.func12, Try.ntmps12
    go_wp2
    go_ret
    exact ⟨by first | rfl | (simp [errW_none, errW_some] <;> rfl) | (simp [*, errW_none, errW_some] <;> rfl), by repeat (first | (with_reducible first | exact HB.out | apply below_alloc | apply pw_below_drewN | apply below_drew1) | exact HB.out)⟩
  · rw [if_neg c2] at H
    have c2b0 : decide (32 < (l0.length : Int)) = false := decide_eq_false c2
    have c2b1 : decide (32 < l0.length) = false := decide_eq_false (by omega)
    clear c2
    have H' := Aside0.mk H
    clear H
    go_enter Try.func12, Try.ntmps12
    go_wp2
    go_loopg [10] k (fun kq v10 w' => ∃ (x10_1 : Int), v10 = .int .i64 x10_1 ∧ Aside0 (avalanche_Right.l0 kq l0 l0 (l0.length : Int) x10_1 = some r) ∧ Aside0 (kq ≤ k) ∧ Aside0 (Below w.heap.size w w'))
    case atStart => exact ⟨(0), (by first | rfl | (simp; done) | (simp [*]; done)), H', ⟨Nat.le_refl _⟩, ⟨by repeat (first | (with_reducible first | exact HB.out | apply below_alloc | apply pw_below_drewN | apply below_drew1) | exact HB.out)⟩⟩
    case round =>
      clear H'
      try clear c1
      try clear c2
      try clear c2b0
      try clear c2b1
      try clear p2
      obtain ⟨x10_1, rfl, HA, HK1, HB⟩ := hrel
      cases gk with
      | zero => exact absurd HA.out (by simp [avalanche_Right.l0])
      | succ k1 =>
        have H := HA.out
        clear HA
        simp only [avalanche_Right.l0] at H
        by_cases c3 : x10_1 < (l0.length : Int)
        · rw [if_pos c3] at H
          have c3b0 : decide (x10_1 < (l0.length : Int)) = true := decide_eq_true c3
          clear c3
          by_cases c4 : 0 ≤ x10_1
          · rw [if_pos c4] at H
            have c4b0 : decide (0 ≤ x10_1) = true := decide_eq_true c4
            clear c4
            by_cases c5 : x10_1 < (l0.length : Int)
            · rw [if_pos c5] at H
              have c5b0 : decide (x10_1 < (l0.length : Int)) = true := decide_eq_true c5
              clear c5
              have HC6 := Aside0.mk H
              clear H
              have p115 : 0 ≤ (x10_1 : Int) := of_decide_eq_true (by first | (with_reducible assumption) | assumption)
              have q115 : x10_1 < (l0.length : Int) := of_decide_eq_true (by first | (with_reducible assumption) | assumption)
              obtain ⟨ad115, A115_1, c115_1, A115_2, c115_2, e115, hx115_0, hx115_1, hx115_2, hx115_3, hx115_4, hx115_5, hl115_1, hi115_1, hl115_2, hi115_2⟩ := at_T34 HR0.out x10_1 p115 q115
              cases e115
              replace hx115_0 := (HB.out.cell (World.block_lt_of_cell? w _ hx115_0)).trans hx115_0
              replace hx115_1 := (HB.out.cell (World.block_lt_of_cell? w _ hx115_1)).trans hx115_1
              replace hx115_2 := (HB.out.cell (World.block_lt_of_cell? w _ hx115_2)).trans hx115_2
              replace hx115_3 := (HB.out.cell (World.block_lt_of_cell? w _ hx115_3)).trans hx115_3
              replace hx115_4 := (HB.out.cell (World.block_lt_of_cell? w _ hx115_4)).trans hx115_4
              replace hx115_5 := (HB.out.cell (World.block_lt_of_cell? w _ hx115_5)).trans hx115_5
              have HR115_1 := Aside0.mk hi115_1
              have HC115_1 := Aside0.mk hl115_1
              clear hi115_1 hl115_1
              have HR115_2 := Aside0.mk hi115_2
              have HC115_2 := Aside0.mk hl115_2
              clear hi115_2 hl115_2
              replace p115 := eq_true p115
              replace q115 := eq_true q115
              go_upto_region 6 with (first | ((with_reducible refine gate_dst (N := 4) rfl ?_); refine box_event ?hg (N := 4) ?hd (cs := #[.int .i64 0, .slice none 0 0, .slice none 0 0, .int .i64 0, .int .i64 0, .int .i64 0]) (t := 34) ?hr ?_; (case hd => rfl); (case hg => rfl); (case hr => first | (go_simp; done) | (go_simp; rfl)); intro gb116 hg w7 hbox hb; have n0_ := Aside0.mk (below_step (by repeat (first | (with_reducible first | exact HB.out | apply below_alloc | apply pw_below_drewN | apply below_drew1) | exact HB.out)) hb); have n1_ := Aside0.mk (hbox); have n2_ := Aside0.mk ((by rw [hg]; exact (below_size (by repeat (first | (with_reducible first | exact HB.out | apply below_alloc | apply pw_below_drewN | apply below_drew1) | exact HB.out))) : w.heap.size ≤ gb116)); have n3_ := Aside0.mk ((by rw [hg]; exact (below_size (by repeat (first | (with_reducible first | exact HB.out | apply below_alloc | apply pw_below_drewN | apply below_drew1) | exact HB.out))) : w.heap.size ≤ gb116)); clear HB; have HB := n0_; have BK116 := n1_; have GW116 := n2_; have GE116 := n3_; clear n0_ n1_ n2_ n3_; clear hb hbox hg; have hcz8_0 : w7.cell? ⟨gb116, 0, none⟩ = some (.int .i64 0) := (blk_cell BK116.out 0).trans rfl; have hcz8_1 : w7.cell? ⟨gb116, 1, none⟩ = some (.slice none 0 0) := (blk_cell BK116.out 1).trans rfl; have hcz8_2 : w7.cell? ⟨gb116, 2, none⟩ = some (.slice none 0 0) := (blk_cell BK116.out 2).trans rfl; have hcz8_3 : w7.cell? ⟨gb116, 3, none⟩ = some (.int .i64 0) := (blk_cell BK116.out 3).trans rfl; have hcz8_4 : w7.cell? ⟨gb116, 4, none⟩ = some (.int .i64 0) := (blk_cell BK116.out 4).trans rfl; have hcz8_5 : w7.cell? ⟨gb116, 5, none⟩ = some (.int .i64 0) := (blk_cell BK116.out 5).trans rfl; have hfz8_0 := blk_frozen BK116.out 0; have hfz8_1 := blk_frozen BK116.out 1; have hfz8_2 := blk_frozen BK116.out 2; have hfz8_3 := blk_frozen BK116.out 3; have hfz8_4 := blk_frozen BK116.out 4; have hfz8_5 := blk_frozen BK116.out 5))
              (try simp only [Act.put, List.setIfInBounds_toArray, List.set_cons_zero, List.set_cons_succ])
              go_cut [15] (fun v15 wc => ∃ (kq : Nat) (x15_5 : Bool), v15 = .bool x15_5 ∧ Aside0 (avalanche_Right.j1 kq l0 x10_1 l0 (l0.length : Int) x10_1 x15_5 ((rd_T34 l0 x10_1).f0) ((rd_T34 l0 x10_1).f1) ((rd_T34 l0 x10_1).f2) ((rd_T34 l0 x10_1).f3) ((rd_T34 l0 x10_1).f4) ((rd_T34 l0 x10_1).f5) = some r) ∧ Aside0 (kq ≤ k1) ∧ Aside0 (wc.heap[gb116]? = some (.cells #[.int .i64 ((rd_T34 l0 x10_1).f0), (.slice A115_1 ((rd_T34 l0 x10_1).f1).length c115_1), (.slice A115_2 ((rd_T34 l0 x10_1).f2).length c115_2), .int .i64 ((rd_T34 l0 x10_1).f3), .int .i64 ((rd_T34 l0 x10_1).f4), .int .i64 ((rd_T34 l0 x10_1).f5)] 34 (0, 0))) ∧ Aside0 (Below w.heap.size w wc))
              case first =>
                have H := HC6.out
                clear HC6
                replace H := Option.bind_eq_some_iff.mp H
                obtain ⟨t117, A90, H⟩ := H
                replace H : (if t117 = true then ((avalanche_within.f ((rd_T34 l0 x10_1).f3) 4 100000).bind fun t118 => (if t118 = true then ((avalanche_within.f ((rd_T34 l0 x10_1).f4) 0 100000).bind fun t119 => (if t119 = true then ((avalanche_within.f ((rd_T34 l0 x10_1).f5) (-1) 20000000).bind fun t120 => (avalanche_Right.j1 k1 l0 x10_1 l0 (l0.length : Int) x10_1 (!t120) ((rd_T34 l0 x10_1).f0) ((rd_T34 l0 x10_1).f1) ((rd_T34 l0 x10_1).f2) ((rd_T34 l0 x10_1).f3) ((rd_T34 l0 x10_1).f4) ((rd_T34 l0 x10_1).f5))) else (avalanche_Right.j1 k1 l0 x10_1 l0 (l0.length : Int) x10_1 true ((rd_T34 l0 x10_1).f0) ((rd_T34 l0 x10_1).f1) ((rd_T34 l0 x10_1).f2) ((rd_T34 l0 x10_1).f3) ((rd_T34 l0 x10_1).f4) ((rd_T34 l0 x10_1).f5)))) else (avalanche_Right.j1 k1 l0 x10_1 l0 (l0.length : Int) x10_1 true ((rd_T34 l0 x10_1).f0) ((rd_T34 l0 x10_1).f1) ((rd_T34 l0 x10_1).f2) ((rd_T34 l0 x10_1).f3) ((rd_T34 l0 x10_1).f4) ((rd_T34 l0 x10_1).f5)))) else (avalanche_Right.j1 k1 l0 x10_1 l0 (l0.length : Int) x10_1 true ((rd_T34 l0 x10_1).f0) ((rd_T34 l0 x10_1).f1) ((rd_T34 l0 x10_1).f2) ((rd_T34 l0 x10_1).f3) ((rd_T34 l0 x10_1).f4) ((rd_T34 l0 x10_1).f5))) = some r := H
                have A9 := Aside0.mk A90
                clear A90
                by_cases c10 : t117 = true
                · subst c10
                  have H1 : ((avalanche_within.f ((rd_T34 l0 x10_1).f3) 4 100000).bind fun t118 => (if t118 = true then ((avalanche_within.f ((rd_T34 l0 x10_1).f4) 0 100000).bind fun t119 => (if t119 = true then ((avalanche_within.f ((rd_T34 l0 x10_1).f5) (-1) 20000000).bind fun t120 => (avalanche_Right.j1 k1 l0 x10_1 l0 (l0.length : Int) x10_1 (!t120) ((rd_T34 l0 x10_1).f0) ((rd_T34 l0 x10_1).f1) ((rd_T34 l0 x10_1).f2) ((rd_T34 l0 x10_1).f3) ((rd_T34 l0 x10_1).f4) ((rd_T34 l0 x10_1).f5))) else (avalanche_Right.j1 k1 l0 x10_1 l0 (l0.length : Int) x10_1 true ((rd_T34 l0 x10_1).f0) ((rd_T34 l0 x10_1).f1) ((rd_T34 l0 x10_1).f2) ((rd_T34 l0 x10_1).f3) ((rd_T34 l0 x10_1).f4) ((rd_T34 l0 x10_1).f5)))) else (avalanche_Right.j1 k1 l0 x10_1 l0 (l0.length : Int) x10_1 true ((rd_T34 l0 x10_1).f0) ((rd_T34 l0 x10_1).f1) ((rd_T34 l0 x10_1).f2) ((rd_T34 l0 x10_1).f3) ((rd_T34 l0 x10_1).f4) ((rd_T34 l0 x10_1).f5)))) = some r := by rw [if_pos rfl] at H; exact H
                  clear H
                  have H := H1
                  clear H1
                  replace H := Option.bind_eq_some_iff.mp H
                  obtain ⟨t118, A110, H⟩ := H
                  replace H : (if t118 = true then ((avalanche_within.f ((rd_T34 l0 x10_1).f4) 0 100000).bind fun t119 => (if t119 = true then ((avalanche_within.f ((rd_T34 l0 x10_1).f5) (-1) 20000000).bind fun t120 => (avalanche_Right.j1 k1 l0 x10_1 l0 (l0.length : Int) x10_1 (!t120) ((rd_T34 l0 x10_1).f0) ((rd_T34 l0 x10_1).f1) ((rd_T34 l0 x10_1).f2) ((rd_T34 l0 x10_1).f3) ((rd_T34 l0 x10_1).f4) ((rd_T34 l0 x10_1).f5))) else (avalanche_Right.j1 k1 l0 x10_1 l0 (l0.length : Int) x10_1 true ((rd_T34 l0 x10_1).f0) ((rd_T34 l0 x10_1).f1) ((rd_T34 l0 x10_1).f2) ((rd_T34 l0 x10_1).f3) ((rd_T34 l0 x10_1).f4) ((rd_T34 l0 x10_1).f5)))) else (avalanche_Right.j1 k1 l0 x10_1 l0 (l0.length : Int) x10_1 true ((rd_T34 l0 x10_1).f0) ((rd_T34 l0 x10_1).f1) ((rd_T34 l0 x10_1).f2) ((rd_T34 l0 x10_1).f3) ((rd_T34 l0 x10_1).f4) ((rd_T34 l0 x10_1).f5))) = some r := H
                  have A11 := Aside0.mk A110
                  clear A110
                  by_cases c12 : t118 = true
                  · subst c12
                    have H1 : ((avalanche_within.f ((rd_T34 l0 x10_1).f4) 0 100000).bind fun t119 => (if t119 = true then ((avalanche_within.f ((rd_T34 l0 x10_1).f5) (-1) 20000000).bind fun t120 => (avalanche_Right.j1 k1 l0 x10_1 l0 (l0.length : Int) x10_1 (!t120) ((rd_T34 l0 x10_1).f0) ((rd_T34 l0 x10_1).f1) ((rd_T34 l0 x10_1).f2) ((rd_T34 l0 x10_1).f3) ((rd_T34 l0 x10_1).f4) ((rd_T34 l0 x10_1).f5))) else (avalanche_Right.j1 k1 l0 x10_1 l0 (l0.length : Int) x10_1 true ((rd_T34 l0 x10_1).f0) ((rd_T34 l0 x10_1).f1) ((rd_T34 l0 x10_1).f2) ((rd_T34 l0 x10_1).f3) ((rd_T34 l0 x10_1).f4) ((rd_T34 l0 x10_1).f5)))) = some r := by rw [if_pos rfl] at H; exact H
                    clear H
                    have H := H1
                    clear H1
                    replace H := Option.bind_eq_some_iff.mp H
                    obtain ⟨t119, A130, H⟩ := H
                    replace H : (if t119 = true then ((avalanche_within.f ((rd_T34 l0 x10_1).f5) (-1) 20000000).bind fun t120 => (avalanche_Right.j1 k1 l0 x10_1 l0 (l0.length : Int) x10_1 (!t120) ((rd_T34 l0 x10_1).f0) ((rd_T34 l0 x10_1).f1) ((rd_T34 l0 x10_1).f2) ((rd_T34 l0 x10_1).f3) ((rd_T34 l0 x10_1).f4) ((rd_T34 l0 x10_1).f5))) else (avalanche_Right.j1 k1 l0 x10_1 l0 (l0.length : Int) x10_1 true ((rd_T34 l0 x10_1).f0) ((rd_T34 l0 x10_1).f1) ((rd_T34 l0 x10_1).f2) ((rd_T34 l0 x10_1).f3) ((rd_T34 l0 x10_1).f4) ((rd_T34 l0 x10_1).f5))) = some r := H
                    have A13 := Aside0.mk A130
                    clear A130
                    by_cases c14 : t119 = true
                    · subst c14
                      have H1 : ((avalanche_within.f ((rd_T34 l0 x10_1).f5) (-1) 20000000).bind fun t120 => (avalanche_Right.j1 k1 l0 x10_1 l0 (l0.length : Int) x10_1 (!t120) ((rd_T34 l0 x10_1).f0) ((rd_T34 l0 x10_1).f1) ((rd_T34 l0 x10_1).f2) ((rd_T34 l0 x10_1).f3) ((rd_T34 l0 x10_1).f4) ((rd_T34 l0 x10_1).f5))) = some r := by rw [if_pos rfl] at H; exact H
                      clear H
                      have H := H1
                      clear H1
                      replace H := Option.bind_eq_some_iff.mp H
                      obtain ⟨t120, A150, H⟩ := H
                      replace H : (avalanche_Right.j1 k1 l0 x10_1 l0 (l0.length : Int) x10_1 (!t120) ((rd_T34 l0 x10_1).f0) ((rd_T34 l0 x10_1).f1) ((rd_T34 l0 x10_1).f2) ((rd_T34 l0 x10_1).f3) ((rd_T34 l0 x10_1).f4) ((rd_T34 l0 x10_1).f5)) = some r := H
                      have A15 := Aside0.mk A150
                      clear A150
                      have H' := Aside0.mk H
                      clear H
                      have hcz16_0 : w7.cell? ⟨gb116, 0, none⟩ = some (.int .i64 0) := (blk_cell BK116.out 0).trans rfl
                      have hcz16_1 : w7.cell? ⟨gb116, 1, none⟩ = some (.slice none 0 0) := (blk_cell BK116.out 1).trans rfl
                      have hcz16_2 : w7.cell? ⟨gb116, 2, none⟩ = some (.slice none 0 0) := (blk_cell BK116.out 2).trans rfl
                      have hcz16_3 : w7.cell? ⟨gb116, 3, none⟩ = some (.int .i64 0) := (blk_cell BK116.out 3).trans rfl
                      have hcz16_4 : w7.cell? ⟨gb116, 4, none⟩ = some (.int .i64 0) := (blk_cell BK116.out 4).trans rfl
                      have hcz16_5 : w7.cell? ⟨gb116, 5, none⟩ = some (.int .i64 0) := (blk_cell BK116.out 5).trans rfl
                      have hfz16_0 := blk_frozen BK116.out 0
                      have hfz16_1 := blk_frozen BK116.out 1
                      have hfz16_2 := blk_frozen BK116.out 2
                      have hfz16_3 := blk_frozen BK116.out 3
                      have hfz16_4 := blk_frozen BK116.out 4
                      have hfz16_5 := blk_frozen BK116.out 5
                      go_wp2_with (first | ((with_reducible refine gate_callee (f := 33) rfl ?_); refine goesL_ (some 18) rfl rfl Try.func33 (by kernel_rfl) rfl #[.int .i64 ((rd_T34 l0 x10_1).f0), .int .i64 1, .int .i64 9999] rfl (by (try simp only [List.map_toArray, List.map_cons, List.map_nil]); first | done | rfl | (simp only [List.length_drop, List.length_take]; rfl)) ?_; (with_reducible refine (avalanche_within.calls ((rd_T34 l0 x10_1).f0) 1 9999 true _ A9.out).mono ?_); rintro e w' ⟨rfl, ⟨nd, rfl⟩⟩; refine ⟨_, rfl, ?_⟩) | (go_at_call 33; (with_reducible refine (avalanche_within.calls ((rd_T34 l0 x10_1).f3) 4 100000 true _ A11.out).mono ?_); rintro e w' ⟨rfl, ⟨nd, rfl⟩⟩) | (go_at_call 33; (with_reducible refine (avalanche_within.calls ((rd_T34 l0 x10_1).f4) 0 100000 true _ A13.out).mono ?_); rintro e w' ⟨rfl, ⟨nd, rfl⟩⟩) | (go_at_call 33; (with_reducible refine (avalanche_within.calls ((rd_T34 l0 x10_1).f5) (-1) 20000000 t120 _ A15.out).mono ?_); rintro e w' ⟨rfl, ⟨nd, rfl⟩⟩))
                      go_meet
                      case rel => exact ⟨_, (!t120), (by first | rfl | (simp; done) | (simp [*]; done)), H', ⟨by have := HK1.out; first | omega | exact Nat.le_refl _⟩, ⟨by (with_reducible repeat (first | refine blk_drewN ?_ _ | refine blk_drew ?_ | refine blk_alloc ?_ _)); refine blk_put (cs := #[.int .i64 ((rd_T34 l0 x10_1).f0), .slice A115_1 ((rd_T34 l0 x10_1).f1).length c115_1, .slice A115_2 ((rd_T34 l0 x10_1).f2).length c115_2, .int .i64 ((rd_T34 l0 x10_1).f3), .int .i64 ((rd_T34 l0 x10_1).f4), .int .i64 0]) ?_ 5 _ rfl; (with_reducible repeat (first | refine blk_drewN ?_ _ | refine blk_drew ?_ | refine blk_alloc ?_ _)); refine blk_put (cs := #[.int .i64 ((rd_T34 l0 x10_1).f0), .slice A115_1 ((rd_T34 l0 x10_1).f1).length c115_1, .slice A115_2 ((rd_T34 l0 x10_1).f2).length c115_2, .int .i64 ((rd_T34 l0 x10_1).f3), .int .i64 0, .int .i64 0]) ?_ 4 _ rfl; (with_reducible repeat (first | refine blk_drewN ?_ _ | refine blk_drew ?_ | refine blk_alloc ?_ _)); refine blk_put (cs := #[.int .i64 ((rd_T34 l0 x10_1).f0), .slice A115_1 ((rd_T34 l0 x10_1).f1).length c115_1, .slice A115_2 ((rd_T34 l0 x10_1).f2).length c115_2, .int .i64 0, .int .i64 0, .int .i64 0]) ?_ 3 _ rfl; (with_reducible repeat (first | refine blk_drewN ?_ _ | refine blk_drew ?_ | refine blk_alloc ?_ _)); refine blk_put (cs := #[.int .i64 ((rd_T34 l0 x10_1).f0), .slice A115_1 ((rd_T34 l0 x10_1).f1).length c115_1, .slice none 0 0, .int .i64 0, .int .i64 0, .int .i64 0]) ?_ 2 _ rfl; (with_reducible repeat (first | refine blk_drewN ?_ _ | refine blk_drew ?_ | refine blk_alloc ?_ _)); refine blk_put (cs := #[.int .i64 ((rd_T34 l0 x10_1).f0), .slice none 0 0, .slice none 0 0, .int .i64 0, .int .i64 0, .int .i64 0]) ?_ 1 _ rfl; (with_reducible repeat (first | refine blk_drewN ?_ _ | refine blk_drew ?_ | refine blk_alloc ?_ _)); refine blk_put (cs := #[.int .i64 0, .slice none 0 0, .slice none 0 0, .int .i64 0, .int .i64 0, .int .i64 0]) ?_ 0 _ rfl; (with_reducible repeat (first | refine blk_drewN ?_ _ | refine blk_drew ?_ | refine blk_alloc ?_ _)); exact BK116.out⟩, ⟨by repeat (first | (with_reducible first | exact HB.out | apply below_alloc | apply pw_below_drewN | apply below_drew1 | refine below_set ?_ GE116.out) | exact HB.out)⟩⟩
                    · replace c14 := Bool.eq_false_iff.mpr c14
                      subst c14
                      have H1 : (avalanche_Right.j1 k1 l0 x10_1 l0 (l0.length : Int) x10_1 true ((rd_T34 l0 x10_1).f0) ((rd_T34 l0 x10_1).f1) ((rd_T34 l0 x10_1).f2) ((rd_T34 l0 x10_1).f3) ((rd_T34 l0 x10_1).f4) ((rd_T34 l0 x10_1).f5)) = some r := by rw [if_neg (show ¬ (false = true) by decide)] at H; exact H
                      clear H
                      have H := H1
                      clear H1
                      have H' := Aside0.mk H
                      clear H
                      have hcz17_0 : w7.cell? ⟨gb116, 0, none⟩ = some (.int .i64 0) := (blk_cell BK116.out 0).trans rfl
                      have hcz17_1 : w7.cell? ⟨gb116, 1, none⟩ = some (.slice none 0 0) := (blk_cell BK116.out 1).trans rfl
                      have hcz17_2 : w7.cell? ⟨gb116, 2, none⟩ = some (.slice none 0 0) := (blk_cell BK116.out 2).trans rfl
                      have hcz17_3 : w7.cell? ⟨gb116, 3, none⟩ = some (.int .i64 0) := (blk_cell BK116.out 3).trans rfl
                      have hcz17_4 : w7.cell? ⟨gb116, 4, none⟩ = some (.int .i64 0) := (blk_cell BK116.out 4).trans rfl
                      have hcz17_5 : w7.cell? ⟨gb116, 5, none⟩ = some (.int .i64 0) := (blk_cell BK116.out 5).trans rfl
                      have hfz17_0 := blk_frozen BK116.out 0
                      have hfz17_1 := blk_frozen BK116.out 1
                      have hfz17_2 := blk_frozen BK116.out 2
                      have hfz17_3 := blk_frozen BK116.out 3
                      have hfz17_4 := blk_frozen BK116.out 4
                      have hfz17_5 := blk_frozen BK116.out 5
                      go_wp2_with (first | ((with_reducible refine gate_callee (f := 33) rfl ?_); refine goesL_ (some 18) rfl rfl Try.func33 (by kernel_rfl) rfl #[.int .i64 ((rd_T34 l0 x10_1).f0), .int .i64 1, .int .i64 9999] rfl (by (try simp only [List.map_toArray, List.map_cons, List.map_nil]); first | done | rfl | (simp only [List.length_drop, List.length_take]; rfl)) ?_; (with_reducible refine (avalanche_within.calls ((rd_T34 l0 x10_1).f0) 1 9999 true _ A9.out).mono ?_); rintro e w' ⟨rfl, ⟨nd, rfl⟩⟩; refine ⟨_, rfl, ?_⟩) | (go_at_call 33; (with_reducible refine (avalanche_within.calls ((rd_T34 l0 x10_1).f3) 4 100000 true _ A11.out).mono ?_); rintro e w' ⟨rfl, ⟨nd, rfl⟩⟩) | (go_at_call 33; (with_reducible refine (avalanche_within.calls ((rd_T34 l0 x10_1).f4) 0 100000 false _ A13.out).mono ?_); rintro e w' ⟨rfl, ⟨nd, rfl⟩⟩))
                      go_meet
                      case rel => exact ⟨_, (true), (by first | rfl | (simp; done) | (simp [*]; done)), H', ⟨by have := HK1.out; first | omega | exact Nat.le_refl _⟩, ⟨by (with_reducible repeat (first | refine blk_drewN ?_ _ | refine blk_drew ?_ | refine blk_alloc ?_ _)); refine blk_put (cs := #[.int .i64 ((rd_T34 l0 x10_1).f0), .slice A115_1 ((rd_T34 l0 x10_1).f1).length c115_1, .slice A115_2 ((rd_T34 l0 x10_1).f2).length c115_2, .int .i64 ((rd_T34 l0 x10_1).f3), .int .i64 ((rd_T34 l0 x10_1).f4), .int .i64 0]) ?_ 5 _ rfl; (with_reducible repeat (first | refine blk_drewN ?_ _ | refine blk_drew ?_ | refine blk_alloc ?_ _)); refine blk_put (cs := #[.int .i64 ((rd_T34 l0 x10_1).f0), .slice A115_1 ((rd_T34 l0 x10_1).f1).length c115_1, .slice A115_2 ((rd_T34 l0 x10_1).f2).length c115_2, .int .i64 ((rd_T34 l0 x10_1).f3), .int .i64 0, .int .i64 0]) ?_ 4 _ rfl; (with_reducible repeat (first | refine blk_drewN ?_ _ | refine blk_drew ?_ | refine blk_alloc ?_ _)); refine blk_put (cs := #[.int .i64 ((rd_T34 l0 x10_1).f0), .slice A115_1 ((rd_T34 l0 x10_1).f1).length c115_1, .slice A115_2 ((rd_T34 l0 x10_1).f2).length c115_2, .int .i64 0, .int .i64 0, .int .i64 0]) ?_ 3 _ rfl; (with_reducible repeat (first | refine blk_drewN ?_ _ | refine blk_drew ?_ | refine blk_alloc ?_ _)); refine blk_put (cs := #[.int .i64 ((rd_T34 l0 x10_1).f0), .slice A115_1 ((rd_T34 l0 x10_1).f1).length c115_1, .slice none 0 0, .int .i64 0, .int .i64 0, .int .i64 0]) ?_ 2 _ rfl; (with_reducible repeat (first | refine blk_drewN ?_ _ | refine blk_drew ?_ | refine blk_alloc ?_ _)); refine blk_put (cs := #[.int .i64 ((rd_T34 l0 x10_1).f0), .slice none 0 0, .slice none 0 0, .int .i64 0, .int .i64 0, .int .i64 0]) ?_ 1 _ rfl; (with_reducible repeat (first | refine blk_drewN ?_ _ | refine blk_drew ?_ | refine blk_alloc ?_ _)); refine blk_put (cs := #[.int .i64 0, .slice none 0 0, .slice none 0 0, .int .i64 0, .int .i64 0, .int .i64 0]) ?_ 0 _ rfl; (with_reducible repeat (first | refine blk_drewN ?_ _ | refine blk_drew ?_ | refine blk_alloc ?_ _)); exact BK116.out⟩, ⟨by repeat (first | (with_reducible first | exact HB.out | apply below_alloc | apply pw_below_drewN | apply below_drew1 | refine below_set ?_ GE116.out) | exact HB.out)⟩⟩
                  · replace c12 := Bool.eq_false_iff.mpr c12
                    subst c12
                    have H1 : (avalanche_Right.j1 k1 l0 x10_1 l0 (l0.length : Int) x10_1 true ((rd_T34 l0 x10_1).f0) ((rd_T34 l0 x10_1).f1) ((rd_T34 l0 x10_1).f2) ((rd_T34 l0 x10_1).f3) ((rd_T34 l0 x10_1).f4) ((rd_T34 l0 x10_1).f5)) = some r := by rw [if_neg (show ¬ (false = true) by decide)] at H; exact H
                    clear H
                    have H := H1
                    clear H1
                    have H' := Aside0.mk H
                    clear H
                    have hcz18_0 : w7.cell? ⟨gb116, 0, none⟩ = some (.int .i64 0) := (blk_cell BK116.out 0).trans rfl
                    have hcz18_1 : w7.cell? ⟨gb116, 1, none⟩ = some (.slice none 0 0) := (blk_cell BK116.out 1).trans rfl
                    have hcz18_2 : w7.cell? ⟨gb116, 2, none⟩ = some (.slice none 0 0) := (blk_cell BK116.out 2).trans rfl
                    have hcz18_3 : w7.cell? ⟨gb116, 3, none⟩ = some (.int .i64 0) := (blk_cell BK116.out 3).trans rfl
                    have hcz18_4 : w7.cell? ⟨gb116, 4, none⟩ = some (.int .i64 0) := (blk_cell BK116.out 4).trans rfl
                    have hcz18_5 : w7.cell? ⟨gb116, 5, none⟩ = some (.int .i64 0) := (blk_cell BK116.out 5).trans rfl
                    have hfz18_0 := blk_frozen BK116.out 0
                    have hfz18_1 := blk_frozen BK116.out 1
                    have hfz18_2 := blk_frozen BK116.out 2
                    have hfz18_3 := blk_frozen BK116.out 3
                    have hfz18_4 := blk_frozen BK116.out 4
                    have hfz18_5 := blk_frozen BK116.out 5
                    go_wp2_with (first | ((with_reducible refine gate_callee (f := 33) rfl ?_); refine goesL_ (some 18) rfl rfl Try.func33 (by kernel_rfl) rfl #[.int .i64 ((rd_T34 l0 x10_1).f0), .int .i64 1, .int .i64 9999] rfl (by (try simp only [List.map_toArray, List.map_cons, List.map_nil]); first | done | rfl | (simp only [List.length_drop, List.length_take]; rfl)) ?_; (with_reducible refine (avalanche_within.calls ((rd_T34 l0 x10_1).f0) 1 9999 true _ A9.out).mono ?_); rintro e w' ⟨rfl, ⟨nd, rfl⟩⟩; refine ⟨_, rfl, ?_⟩) | (go_at_call 33; (with_reducible refine (avalanche_within.calls ((rd_T34 l0 x10_1).f3) 4 100000 false _ A11.out).mono ?_); rintro e w' ⟨rfl, ⟨nd, rfl⟩⟩))
                    go_meet
                    case rel => exact ⟨_, (true), (by first | rfl | (simp; done) | (simp [*]; done)), H', ⟨by have := HK1.out; first | omega | exact Nat.le_refl _⟩, ⟨by (with_reducible repeat (first | refine blk_drewN ?_ _ | refine blk_drew ?_ | refine blk_alloc ?_ _)); refine blk_put (cs := #[.int .i64 ((rd_T34 l0 x10_1).f0), .slice A115_1 ((rd_T34 l0 x10_1).f1).length c115_1, .slice A115_2 ((rd_T34 l0 x10_1).f2).length c115_2, .int .i64 ((rd_T34 l0 x10_1).f3), .int .i64 ((rd_T34 l0 x10_1).f4), .int .i64 0]) ?_ 5 _ rfl; (with_reducible repeat (first | refine blk_drewN ?_ _ | refine blk_drew ?_ | refine blk_alloc ?_ _)); refine blk_put (cs := #[.int .i64 ((rd_T34 l0 x10_1).f0), .slice A115_1 ((rd_T34 l0 x10_1).f1).length c115_1, .slice A115_2 ((rd_T34 l0 x10_1).f2).length c115_2, .int .i64 ((rd_T34 l0 x10_1).f3), .int .i64 0, .int .i64 0]) ?_ 4 _ rfl; (with_reducible repeat (first | refine blk_drewN ?_ _ | refine blk_drew ?_ | refine blk_alloc ?_ _)); refine blk_put (cs := #[.int .i64 ((rd_T34 l0 x10_1).f0), .slice A115_1 ((rd_T34 l0 x10_1).f1).length c115_1, .slice A115_2 ((rd_T34 l0 x10_1).f2).length c115_2, .int .i64 0, .int .i64 0, .int .i64 0]) ?_ 3 _ rfl; (with_reducible repeat (first | refine blk_drewN ?_ _ | refine blk_drew ?_ | refine blk_alloc ?_ _)); refine blk_put (cs := #[.int .i64 ((rd_T34 l0 x10_1).f0), .slice A115_1 ((rd_T34 l0 x10_1).f1).length c115_1, .slice none 0 0, .int .i64 0, .int .i64 0, .int .i64 0]) ?_ 2 _ rfl; (with_reducible repeat (first | refine blk_drewN ?_ _ | refine blk_drew ?_ | refine blk_alloc ?_ _)); refine blk_put (cs := #[.int .i64 ((rd_T34 l0 x10_1).f0), .slice none 0 0, .slice none 0 0, .int .i64 0, .int .i64 0, .int .i64 0]) ?_ 1 _ rfl; (with_reducible repeat (first | refine blk_drewN ?_ _ | refine blk_drew ?_ | refine blk_alloc ?_ _)); refine blk_put (cs := #[.int .i64 0, .slice none 0 0, .slice none 0 0, .int .i64 0, .int .i64 0, .int .i64 0]) ?_ 0 _ rfl; (with_reducible repeat (first | refine blk_drewN ?_ _ | refine blk_drew ?_ | refine blk_alloc ?_ _)); exact BK116.out⟩, ⟨by repeat (first | (with_reducible first | exact HB.out | apply below_alloc | apply pw_below_drewN | apply below_drew1 | refine below_set ?_ GE116.out) | exact HB.out)⟩⟩
                · replace c10 := Bool.eq_false_iff.mpr c10
                  subst c10
                  have H1 : (avalanche_Right.j1 k1 l0 x10_1 l0 (l0.length : Int) x10_1 true ((rd_T34 l0 x10_1).f0) ((rd_T34 l0 x10_1).f1) ((rd_T34 l0 x10_1).f2) ((rd_T34 l0 x10_1).f3) ((rd_T34 l0 x10_1).f4) ((rd_T34 l0 x10_1).f5)) = some r := by rw [if_neg (show ¬ (false = true) by decide)] at H; exact H
                  clear H
                  have H := H1
                  clear H1
                  have H' := Aside0.mk H
                  clear H
                  have hcz19_0 : w7.cell? ⟨gb116, 0, none⟩ = some (.int .i64 0) := (blk_cell BK116.out 0).trans rfl
                  have hcz19_1 : w7.cell? ⟨gb116, 1, none⟩ = some (.slice none 0 0) := (blk_cell BK116.out 1).trans rfl
                  have hcz19_2 : w7.cell? ⟨gb116, 2, none⟩ = some (.slice none 0 0) := (blk_cell BK116.out 2).trans rfl
                  have hcz19_3 : w7.cell? ⟨gb116, 3, none⟩ = some (.int .i64 0) := (blk_cell BK116.out 3).trans rfl
                  have hcz19_4 : w7.cell? ⟨gb116, 4, none⟩ = some (.int .i64 0) := (blk_cell BK116.out 4).trans rfl
                  have hcz19_5 : w7.cell? ⟨gb116, 5, none⟩ = some (.int .i64 0) := (blk_cell BK116.out 5).trans rfl
                  have hfz19_0 := blk_frozen BK116.out 0
                  have hfz19_1 := blk_frozen BK116.out 1
                  have hfz19_2 := blk_frozen BK116.out 2
                  have hfz19_3 := blk_frozen BK116.out 3
                  have hfz19_4 := blk_frozen BK116.out 4
                  have hfz19_5 := blk_frozen BK116.out 5
                  go_wp2_with (first | ((with_reducible refine gate_callee (f := 33) rfl ?_); refine goesL_ (some 18) rfl rfl Try.func33 (by kernel_rfl) rfl #[.int .i64 ((rd_T34 l0 x10_1).f0), .int .i64 1, .int .i64 9999] rfl (by (try simp only [List.map_toArray, List.map_cons, List.map_nil]); first | done | rfl | (simp only [List.length_drop, List.length_take]; rfl)) ?_; (with_reducible refine (avalanche_within.calls ((rd_T34 l0 x10_1).f0) 1 9999 false _ A9.out).mono ?_); rintro e w' ⟨rfl, ⟨nd, rfl⟩⟩; refine ⟨_, rfl, ?_⟩))
                  go_meet
                  case rel => exact ⟨_, (true), (by first | rfl | (simp; done) | (simp [*]; done)), H', ⟨by have := HK1.out; first | omega | exact Nat.le_refl _⟩, ⟨by (with_reducible repeat (first | refine blk_drewN ?_ _ | refine blk_drew ?_ | refine blk_alloc ?_ _)); refine blk_put (cs := #[.int .i64 ((rd_T34 l0 x10_1).f0), .slice A115_1 ((rd_T34 l0 x10_1).f1).length c115_1, .slice A115_2 ((rd_T34 l0 x10_1).f2).length c115_2, .int .i64 ((rd_T34 l0 x10_1).f3), .int .i64 ((rd_T34 l0 x10_1).f4), .int .i64 0]) ?_ 5 _ rfl; (with_reducible repeat (first | refine blk_drewN ?_ _ | refine blk_drew ?_ | refine blk_alloc ?_ _)); refine blk_put (cs := #[.int .i64 ((rd_T34 l0 x10_1).f0), .slice A115_1 ((rd_T34 l0 x10_1).f1).length c115_1, .slice A115_2 ((rd_T34 l0 x10_1).f2).length c115_2, .int .i64 ((rd_T34 l0 x10_1).f3), .int .i64 0, .int .i64 0]) ?_ 4 _ rfl; (with_reducible repeat (first | refine blk_drewN ?_ _ | refine blk_drew ?_ | refine blk_alloc ?_ _)); refine blk_put (cs := #[.int .i64 ((rd_T34 l0 x10_1).f0), .slice A115_1 ((rd_T34 l0 x10_1).f1).length c115_1, .slice A115_2 ((rd_T34 l0 x10_1).f2).length c115_2, .int .i64 0, .int .i64 0, .int .i64 0]) ?_ 3 _ rfl; (with_reducible repeat (first | refine blk_drewN ?_ _ | refine blk_drew ?_ | refine blk_alloc ?_ _)); refine blk_put (cs := #[.int .i64 ((rd_T34 l0 x10_1).f0), .slice A115_1 ((rd_T34 l0 x10_1).f1).length c115_1, .slice none 0 0, .int .i64 0, .int .i64 0, .int .i64 0]) ?_ 2 _ rfl; (with_reducible repeat (first | refine blk_drewN ?_ _ | refine blk_drew ?_ | refine blk_alloc ?_ _)); refine blk_put (cs := #[.int .i64 ((rd_T34 l0 x10_1).f0), .slice none 0 0, .slice none 0 0, .int .i64 0, .int .i64 0, .int .i64 0]) ?_ 1 _ rfl; (with_reducible repeat (first | refine blk_drewN ?_ _ | refine blk_drew ?_ | refine blk_alloc ?_ _)); refine blk_put (cs := #[.int .i64 0, .slice none 0 0, .slice none 0 0, .int .i64 0, .int .i64 0, .int .i64 0]) ?_ 0 _ rfl; (with_reducible repeat (first | refine blk_drewN ?_ _ | refine blk_drew ?_ | refine blk_alloc ?_ _)); exact BK116.out⟩, ⟨by repeat (first | (with_reducible first | exact HB.out | apply below_alloc | apply pw_below_drewN | apply below_drew1 | refine below_set ?_ GE116.out) | exact HB.out)⟩⟩
              case rest =>
                clear HC6
                try clear c1
                try clear p1
                try clear q1
                try clear hx1
                try clear c2
                try clear c2b0
                try clear c2b1
                try clear p2
                try clear c3
                try clear c3b0
                try clear c4
                try clear c4b0
                try clear c5
                try clear c5b0
                try clear c10
                try clear c11
                try clear p11
                try clear q11
                try clear hx11
                try clear c12
                try clear c14
                try clear hcz16_0
                try clear hcz16_1
                try clear hcz16_2
                try clear hcz16_3
                try clear hcz16_4
                try clear hcz16_5
                try clear hcz17_0
                try clear hcz17_1
                try clear hcz17_2
                try clear hcz17_3
                try clear hcz17_4
                try clear hcz17_5
                try clear hcz18_0
                try clear hcz18_1
                try clear hcz18_2
                try clear hcz18_3
                try clear hcz18_4
                try clear hcz18_5
                try clear hcz19_0
                try clear hcz19_1
                try clear hcz19_2
                try clear hcz19_3
                try clear hcz19_4
                try clear hcz19_5
                try clear hcz8_0
                try clear hcz8_1
                try clear hcz8_2
                try clear hcz8_3
                try clear hcz8_4
                try clear hcz8_5
                try clear hfz16_0
                try clear hfz16_1
                try clear hfz16_2
                try clear hfz16_3
                try clear hfz16_4
                try clear hfz16_5
                try clear hfz17_0
                try clear hfz17_1
                try clear hfz17_2
                try clear hfz17_3
                try clear hfz17_4
                try clear hfz17_5
                try clear hfz18_0
                try clear hfz18_1
                try clear hfz18_2
                try clear hfz18_3
                try clear hfz18_4
                try clear hfz18_5
                try clear hfz19_0
                try clear hfz19_1
                try clear hfz19_2
                try clear hfz19_3
                try clear hfz19_4
                try clear hfz19_5
                try clear hfz8_0
                try clear hfz8_1
                try clear hfz8_2
                try clear hfz8_3
                try clear hfz8_4
                try clear hfz8_5
                try clear hx115_0
                try clear hx115_1
                try clear hx115_2
                try clear hx115_3
                try clear hx115_4
                try clear hx115_5
                try clear p115
                try clear p2
                try clear q115
                obtain ⟨kq, x15_5, rfl, HA, HJ5, BK116, HB⟩ := hcut
                cases kq with
                | zero => exact absurd HA.out (by simp [avalanche_Right.j1])
                | succ kj5 =>
                  have H := HA.out
                  clear HA
                  simp only [avalanche_Right.j1] at H
                  by_cases c20 : x15_5 = true
                  · subst c20
                    have H1 : (some 2) = some r := by rw [if_pos rfl] at H; exact H
                    clear H
                    have H := H1
                    clear H1
                    obtain rfl := Option.some.inj H
                    go_wp2
                    go_ret
                    exact ⟨by first | rfl | (simp [errW_none, errW_some] <;> rfl) | (simp [*, errW_none, errW_some] <;> rfl), by repeat (first | (with_reducible first | exact HB.out | apply below_alloc | apply pw_below_drewN | apply below_drew1 | refine below_set ?_ GE116.out) | exact HB.out)⟩
                  · replace c20 := Bool.eq_false_iff.mpr c20
                    subst c20
                    have H1 : (if 0 ≤ x10_1 then (if x10_1 ≤ (l0.length : Int) then ((avalanche_find.f (l0.take (x10_1 : Int).toNat) ((rd_T34 l0 x10_1).f0)).bind fun t125 => (if t125 ≥ 0 then (some 7) else (if (((rd_T34 l0 x10_1).f1).length : Int) = 0 then (some 1) else ((avalanche_rising.f kj5 ((rd_T34 l0 x10_1).f1) 32).bind fun t126 => (if t126 = true then ((avalanche_rising.f kj5 ((rd_T34 l0 x10_1).f2) 9999).bind fun t127 => (if t127 = true then (avalanche_Right.l0 kj5 l0 l0 (l0.length : Int) (wrap64 (x10_1 + 1))) else (some 1))) else (some 1)))))) else (none)) else (none)) = some r := by rw [if_neg (show ¬ (false = true) by decide)] at H; exact H
                    clear H
                    have H := H1
                    clear H1
                    by_cases c21 : 0 ≤ x10_1
                    · rw [if_pos c21] at H
                      have c21b0 := eq_true c21
                      have c21b1 : decide (0 ≤ x10_1) = true := decide_eq_true c21
                      clear c21
                      by_cases c22 : x10_1 ≤ (l0.length : Int)
                      · rw [if_pos c22] at H
                        have c22b0 := eq_true c22
                        have c22b1 : decide (x10_1 ≤ (l0.length : Int)) = true := decide_eq_true c22
                        clear c22
                        obtain ⟨y121, hy121⟩ : ∃ y_ : List (S34), y_ = (l0.take (x10_1 : Int).toNat) := ⟨_, rfl⟩
                        replace H : ((avalanche_find.f y121 ((rd_T34 l0 x10_1).f0)).bind fun t125 => (if t125 ≥ 0 then (some 7) else (if (((rd_T34 l0 x10_1).f1).length : Int) = 0 then (some 1) else ((avalanche_rising.f kj5 ((rd_T34 l0 x10_1).f1) 32).bind fun t126 => (if t126 = true then ((avalanche_rising.f kj5 ((rd_T34 l0 x10_1).f2) 9999).bind fun t127 => (if t127 = true then (avalanche_Right.l0 kj5 l0 l0 (l0.length : Int) (wrap64 (x10_1 + 1))) else (some 1))) else (some 1)))))) = some r := by first | (rw [hy121]; with_reducible exact H) | (have H2_ := (Option.bind_some _ _).symm.trans H; rw [hy121]; with_reducible exact H2_) | (have H2_ := (Option.bind_some _ _).symm.trans H; with_reducible exact H2_) | with_reducible exact H | (rw [hy121]; exact H) | exact H
                        have Ny121 := Aside0.mk hy121
                        clear hy121
                        replace H := Option.bind_eq_some_iff.mp H
                        obtain ⟨t125, A230, H⟩ := H
                        replace H : (if t125 ≥ 0 then (some 7) else (if (((rd_T34 l0 x10_1).f1).length : Int) = 0 then (some 1) else ((avalanche_rising.f kj5 ((rd_T34 l0 x10_1).f1) 32).bind fun t126 => (if t126 = true then ((avalanche_rising.f kj5 ((rd_T34 l0 x10_1).f2) 9999).bind fun t127 => (if t127 = true then (avalanche_Right.l0 kj5 l0 l0 (l0.length : Int) (wrap64 (x10_1 + 1))) else (some 1))) else (some 1))))) = some r := H
                        have A23 := Aside0.mk A230
                        clear A230
                        by_cases c24 : t125 ≥ 0
                        · rw [if_pos c24] at H
                          have c24b0 : decide (0 ≤ t125) = true := decide_eq_true c24
                          clear c24
                          obtain rfl := Option.some.inj H
                          try go_wp2
                          have n0_ := Aside0.mk (blk_drew BK116.out)
                          have n1_ := Aside0.mk (below_drew1 HB.out)
                          clear BK116
                          clear HB
                          have BK116 := n0_
                          have HB := n1_
                          clear n0_ n1_
                          have q26 : (x10_1 : Int) ≤ ((l0.length : Int) : Int) := of_decide_eq_true (by first | (with_reducible assumption) | assumption)
                          obtain ⟨i026, hi026, _, hsz26, _⟩ := info_parts info34
                          have hroom26 : l0.length ≤ c0 := HC0.out
                          have hC26 : Kd.C k34 _ (some ad115) l0.length l0 := HR0.out
                          have hcut26 := cut_to (P := Try.prog) 22 34 .i64 Try.underlying22 hi026 (some ad115) l0.length c0 x10_1 (of_decide_eq_true (by first | (with_reducible assumption) | assumption)) q26 hroom26
                          have hr26 := Kd.C_take (m := (x10_1 : Int).toNat) hC26 (by omega)
                          have hy26 : y121.length = (x10_1 : Int).toNat := (by rw [Ny121.out, List.length_take]; omega)
                          rw [← Ny121.out] at hr26
                          rw [← hy26] at hcut26
                          have HR124 := Aside0.mk hr26
                          have HC124 := Aside0.mk (show y121.length ≤ c0 from by omega)
                          clear hr26 hC26 hroom26 hi026 hsz26
                          have KY26 := Aside0.mk hy26
                          clear hy26
                          replace q26 := eq_true q26
                          refine start_ (n := 8) (S := fun w' => w'.cell? ⟨gb116, 0, none⟩ = some (.int .i64 ((rd_T34 l0 x10_1).f0)) ∧ w'.cell? ⟨gb116, 1, none⟩ = some (.slice A115_1 ((rd_T34 l0 x10_1).f1).length c115_1) ∧ w'.cell? ⟨gb116, 2, none⟩ = some (.slice A115_2 ((rd_T34 l0 x10_1).f2).length c115_2) ∧ w'.cell? ⟨gb116, 3, none⟩ = some (.int .i64 ((rd_T34 l0 x10_1).f3)) ∧ w'.cell? ⟨gb116, 4, none⟩ = some (.int .i64 ((rd_T34 l0 x10_1).f4)) ∧ w'.cell? ⟨gb116, 5, none⟩ = some (.int .i64 ((rd_T34 l0 x10_1).f5))) (ds := []) #[false, false, false, false, false, false, false, false] (by kernel_rfl) rfl rfl ⟨(blk_cell BK116.out 0).trans rfl, (blk_cell BK116.out 1).trans rfl, (blk_cell BK116.out 2).trans rfl, (blk_cell BK116.out 3).trans rfl, (blk_cell BK116.out 4).trans rfl, (blk_cell BK116.out 5).trans rfl⟩ (fun hHeld => ?_); refine with_tabW avalanche_Right.tab8 avalanche_Right.bits8 (fun HT_ HW_ => ?_)
                          generalize wc.drew = w25 at BK116 HB HR124 hHeld ⊢
                          refine pure_ (i := 0) (N := some 39) (v := ?_) (a' := ?_) #[true, false, false, false, false, false, false, false] rfl rfl (any_of HT_.out (by kernel_rfl)) (fun _ _ _ h => h) (Or.inl ⟨by rfl, ?_⟩) ?_ ?_
                          rotate_left
                          · intro w'
                            go_simp
                            with_reducible rfl
                          rotate_left
                          · simp only [Act.put, List.setIfInBounds_toArray, List.set_cons_zero, List.set_cons_succ, i64_w, i32_w]
                            rfl
                          refine pure_ (i := 1) (N := some 40) (v := ?_) (a' := ?_) #[true, true, false, false, false, false, false, false] rfl rfl (any_of HT_.out (by kernel_rfl)) (fun _ _ _ h => h) (Or.inl ⟨by rfl, ?_⟩) ?_ ?_
                          rotate_left
                          · intro w'
                            go_simp
                            with_reducible rfl
                          rotate_left
                          · simp only [Act.put, List.setIfInBounds_toArray, List.set_cons_zero, List.set_cons_succ, i64_w, i32_w]
                            rfl
                          refine pure_ (i := 2) (N := some 41) (v := ?_) (a' := ?_) #[true, true, true, false, false, false, false, false] rfl rfl (any_of HT_.out (by kernel_rfl)) (fun _ _ _ h => h) (Or.inl ⟨by rfl, ?_⟩) ?_ ?_
                          rotate_left
                          · intro w'
                            go_simp
                            with_reducible rfl
                          rotate_left
                          · simp only [Act.put, List.setIfInBounds_toArray, List.set_cons_zero, List.set_cons_succ, i64_w, i32_w]
                            rfl
                          refine pure_ (i := 3) (N := some 42) (v := ?_) (a' := ?_) #[true, true, true, true, false, false, false, false] rfl rfl (any_of HT_.out (by kernel_rfl)) (fun _ _ _ h => h) (Or.inl ⟨by rfl, ?_⟩) ?_ ?_
                          rotate_left
                          · intro w'
                            go_simp
                            with_reducible rfl
                          rotate_left
                          · simp only [Act.put, List.setIfInBounds_toArray, List.set_cons_zero, List.set_cons_succ, i64_w, i32_w]
                            rfl
                          refine take_ (i := 4) (N := some 43) (v := ?_) (a' := ?_) #[true, true, true, true, true, false, false, false] rfl rfl (take_ofW HT_.out HW_.out (by kernel_rfl)) (fun _ _ _ h => h) (Or.inl ⟨by rfl, ?_⟩) hHeld ?_ ?_
                          rotate_left
                          · rintro w' ⟨s0, s1, s2, s3, s4, s5⟩
                            go_simp
                            with_reducible rfl
                          rotate_left
                          · simp only [Act.put, List.setIfInBounds_toArray, List.set_cons_zero, List.set_cons_succ, i64_w, i32_w]
                            rfl
                          refine one_ (i := 5) (N := some 44) #[true, true, true, true, true, true, false, false] rfl rfl (one_of HT_.out (by kernel_rfl)) (by decide) (fun K hK => ?_)
                          refine goes_ Try.func34 (by kernel_rfl) rfl #[.slice (some ad115) y121.length c0, .int .i64 ((rd_T34 l0 x10_1).f0)] (by rfl) rfl rfl (by (try simp only [List.map_toArray, List.map_cons, List.map_nil]); first | done | rfl | (simp only [List.length_drop, List.length_take]; rfl)) ?_
                          with_reducible refine (avalanche_find.calls _ _ y121 ((rd_T34 l0 x10_1).f0) t125 _ ?side1 ?side2 A23.out).mono ?_
                          (case side1 => repeat (first | exact (Kd.C_below HR124.out HB.out) | (with_reducible refine Kd.C_alloc ?_ _) | (with_reducible refine Kd.C_drewN ?_ _) | (with_reducible refine Kd.C_drew ?_)))
                          (case side2 => exact HC124.out)
                          rintro e w27 ⟨rfl, hb⟩
                          refine ⟨_, rfl, ?_⟩
                          have n0_ := Aside0.mk (blk_below (g := gb116) (o := .cells #[.int .i64 ((rd_T34 l0 x10_1).f0), .slice A115_1 ((rd_T34 l0 x10_1).f1).length c115_1, .slice A115_2 ((rd_T34 l0 x10_1).f2).length c115_2, .int .i64 ((rd_T34 l0 x10_1).f3), .int .i64 ((rd_T34 l0 x10_1).f4), .int .i64 ((rd_T34 l0 x10_1).f5)] 34 (0, 0)) (by (with_reducible repeat (first | refine blk_drewN ?_ _ | refine blk_drew ?_ | refine blk_alloc ?_ _)); exact BK116.out) hb)
                          have n1_ := Aside0.mk (below_step (by repeat (first | (with_reducible first | exact HB.out | apply below_alloc | apply pw_below_drewN | apply below_drew1 | refine below_set ?_ GE116.out) | exact HB.out)) hb)
                          clear BK116
                          clear HB
                          have BK116 := n0_
                          have HB := n1_
                          clear n0_ n1_
                          (try clear hb)
                          (try clear hb2)
                          (try clear hk)
                          (try clear hi)
                          refine hK.out _ _ ⟨(blk_cell BK116.out 0).trans rfl, (blk_cell BK116.out 1).trans rfl, (blk_cell BK116.out 2).trans rfl, (blk_cell BK116.out 3).trans rfl, (blk_cell BK116.out 4).trans rfl, (blk_cell BK116.out 5).trans rfl⟩ (fun hHeld => ?_)
                          clear hK K
                          refine norm_ (a' := ?_) ?_ ?_
                          rotate_left
                          · show Act.put _ (some 44) _ = _
                            simp only [Act.put, List.setIfInBounds_toArray, List.set_cons_zero, List.set_cons_succ, i64_w, i32_w]
                            rfl
                          refine pure_ (i := 6) (N := some 45) (v := ?_) (a' := ?_) #[true, true, true, true, true, true, true, false] rfl rfl (any_of HT_.out (by kernel_rfl)) (fun _ _ _ h => h) (Or.inl ⟨by rfl, ?_⟩) ?_ ?_
                          rotate_left
                          · intro w'
                            go_simp
                            with_reducible rfl
                          rotate_left
                          · simp only [Act.put, List.setIfInBounds_toArray, List.set_cons_zero, List.set_cons_succ, i64_w, i32_w]
                            rfl
                          refine pure_ (i := 7) (N := some 38) (v := ?_) (a' := ?_) #[true, true, true, true, true, true, true, true] rfl rfl (any_of HT_.out (by kernel_rfl)) (fun _ _ _ h => h) (Or.inl ⟨by rfl, ?_⟩) ?_ ?_
                          rotate_left
                          · intro w'
                            go_simp
                            with_reducible rfl
                          rotate_left
                          · simp only [Act.put, List.setIfInBounds_toArray, List.set_cons_zero, List.set_cons_succ, i64_w, i32_w]
                            rfl
                          refine done_ (done_of HT_.out (by kernel_rfl)) ?_
                          try go_wp2
                          go_ret
                          exact ⟨by first | rfl | (simp [errW_none, errW_some] <;> rfl) | (simp [*, errW_none, errW_some] <;> rfl), by repeat (first | (with_reducible first | exact HB.out | apply below_alloc | apply pw_below_drewN | apply below_drew1 | refine below_set ?_ GE116.out) | exact HB.out)⟩
                        · rw [if_neg c24] at H
                          have c24b0 : decide (0 ≤ t125) = false := decide_eq_false c24
                          clear c24
                          by_cases c28 : (((rd_T34 l0 x10_1).f1).length : Int) = 0
                          · rw [if_pos c28] at H
                            have c28b0 : ((((rd_T34 l0 x10_1).f1).length : Int) == 0) = true := beq_iff_eq.mpr c28
                            have c28b1 : ((((rd_T34 l0 x10_1).f1).length : Int) != 0) = false := bne_eq_false_iff_eq.mpr c28
                            clear c28
                            obtain rfl := Option.some.inj H
                            try go_wp2
                            have n0_ := Aside0.mk (blk_drew BK116.out)
                            have n1_ := Aside0.mk (below_drew1 HB.out)
                            clear BK116
                            clear HB
                            have BK116 := n0_
                            have HB := n1_
                            clear n0_ n1_
                            have q30 : (x10_1 : Int) ≤ ((l0.length : Int) : Int) := of_decide_eq_true (by first | (with_reducible assumption) | assumption)
                            obtain ⟨i030, hi030, _, hsz30, _⟩ := info_parts info34
                            have hroom30 : l0.length ≤ c0 := HC0.out
                            have hC30 : Kd.C k34 _ (some ad115) l0.length l0 := HR0.out
                            have hcut30 := cut_to (P := Try.prog) 22 34 .i64 Try.underlying22 hi030 (some ad115) l0.length c0 x10_1 (of_decide_eq_true (by first | (with_reducible assumption) | assumption)) q30 hroom30
                            have hr30 := Kd.C_take (m := (x10_1 : Int).toNat) hC30 (by omega)
                            have hy30 : y121.length = (x10_1 : Int).toNat := (by rw [Ny121.out, List.length_take]; omega)
                            rw [← Ny121.out] at hr30
                            rw [← hy30] at hcut30
                            have HR124 := Aside0.mk hr30
                            have HC124 := Aside0.mk (show y121.length ≤ c0 from by omega)
                            clear hr30 hC30 hroom30 hi030 hsz30
                            have KY30 := Aside0.mk hy30
                            clear hy30
                            replace q30 := eq_true q30
                            refine start_ (n := 8) (S := fun w' => w'.cell? ⟨gb116, 0, none⟩ = some (.int .i64 ((rd_T34 l0 x10_1).f0)) ∧ w'.cell? ⟨gb116, 1, none⟩ = some (.slice A115_1 ((rd_T34 l0 x10_1).f1).length c115_1) ∧ w'.cell? ⟨gb116, 2, none⟩ = some (.slice A115_2 ((rd_T34 l0 x10_1).f2).length c115_2) ∧ w'.cell? ⟨gb116, 3, none⟩ = some (.int .i64 ((rd_T34 l0 x10_1).f3)) ∧ w'.cell? ⟨gb116, 4, none⟩ = some (.int .i64 ((rd_T34 l0 x10_1).f4)) ∧ w'.cell? ⟨gb116, 5, none⟩ = some (.int .i64 ((rd_T34 l0 x10_1).f5))) (ds := []) #[false, false, false, false, false, false, false, false] (by kernel_rfl) rfl rfl ⟨(blk_cell BK116.out 0).trans rfl, (blk_cell BK116.out 1).trans rfl, (blk_cell BK116.out 2).trans rfl, (blk_cell BK116.out 3).trans rfl, (blk_cell BK116.out 4).trans rfl, (blk_cell BK116.out 5).trans rfl⟩ (fun hHeld => ?_); refine with_tabW avalanche_Right.tab8 avalanche_Right.bits8 (fun HT_ HW_ => ?_)
                            generalize wc.drew = w29 at BK116 HB HR124 hHeld ⊢
                            refine pure_ (i := 0) (N := some 39) (v := ?_) (a' := ?_) #[true, false, false, false, false, false, false, false] rfl rfl (any_of HT_.out (by kernel_rfl)) (fun _ _ _ h => h) (Or.inl ⟨by rfl, ?_⟩) ?_ ?_
                            rotate_left
                            · intro w'
                              go_simp
                              with_reducible rfl
                            rotate_left
                            · simp only [Act.put, List.setIfInBounds_toArray, List.set_cons_zero, List.set_cons_succ, i64_w, i32_w]
                              rfl
                            refine pure_ (i := 1) (N := some 40) (v := ?_) (a' := ?_) #[true, true, false, false, false, false, false, false] rfl rfl (any_of HT_.out (by kernel_rfl)) (fun _ _ _ h => h) (Or.inl ⟨by rfl, ?_⟩) ?_ ?_
                            rotate_left
                            · intro w'
                              go_simp
                              with_reducible rfl
                            rotate_left
                            · simp only [Act.put, List.setIfInBounds_toArray, List.set_cons_zero, List.set_cons_succ, i64_w, i32_w]
                              rfl
                            refine pure_ (i := 2) (N := some 41) (v := ?_) (a' := ?_) #[true, true, true, false, false, false, false, false] rfl rfl (any_of HT_.out (by kernel_rfl)) (fun _ _ _ h => h) (Or.inl ⟨by rfl, ?_⟩) ?_ ?_
                            rotate_left
                            · intro w'
                              go_simp
                              with_reducible rfl
                            rotate_left
                            · simp only [Act.put, List.setIfInBounds_toArray, List.set_cons_zero, List.set_cons_succ, i64_w, i32_w]
                              rfl
                            refine pure_ (i := 3) (N := some 42) (v := ?_) (a' := ?_) #[true, true, true, true, false, false, false, false] rfl rfl (any_of HT_.out (by kernel_rfl)) (fun _ _ _ h => h) (Or.inl ⟨by rfl, ?_⟩) ?_ ?_
                            rotate_left
                            · intro w'
                              go_simp
                              with_reducible rfl
                            rotate_left
                            · simp only [Act.put, List.setIfInBounds_toArray, List.set_cons_zero, List.set_cons_succ, i64_w, i32_w]
                              rfl
                            refine take_ (i := 4) (N := some 43) (v := ?_) (a' := ?_) #[true, true, true, true, true, false, false, false] rfl rfl (take_ofW HT_.out HW_.out (by kernel_rfl)) (fun _ _ _ h => h) (Or.inl ⟨by rfl, ?_⟩) hHeld ?_ ?_
                            rotate_left
                            · rintro w' ⟨s0, s1, s2, s3, s4, s5⟩
                              go_simp
                              with_reducible rfl
                            rotate_left
                            · simp only [Act.put, List.setIfInBounds_toArray, List.set_cons_zero, List.set_cons_succ, i64_w, i32_w]
                              rfl
                            refine one_ (i := 5) (N := some 44) #[true, true, true, true, true, true, false, false] rfl rfl (one_of HT_.out (by kernel_rfl)) (by decide) (fun K hK => ?_)
                            refine goes_ Try.func34 (by kernel_rfl) rfl #[.slice (some ad115) y121.length c0, .int .i64 ((rd_T34 l0 x10_1).f0)] (by rfl) rfl rfl (by (try simp only [List.map_toArray, List.map_cons, List.map_nil]); first | done | rfl | (simp only [List.length_drop, List.length_take]; rfl)) ?_
                            with_reducible refine (avalanche_find.calls _ _ y121 ((rd_T34 l0 x10_1).f0) t125 _ ?side1 ?side2 A23.out).mono ?_
                            (case side1 => repeat (first | exact (Kd.C_below HR124.out HB.out) | (with_reducible refine Kd.C_alloc ?_ _) | (with_reducible refine Kd.C_drewN ?_ _) | (with_reducible refine Kd.C_drew ?_)))
                            (case side2 => exact HC124.out)
                            rintro e w31 ⟨rfl, hb⟩
                            refine ⟨_, rfl, ?_⟩
                            have n0_ := Aside0.mk (blk_below (g := gb116) (o := .cells #[.int .i64 ((rd_T34 l0 x10_1).f0), .slice A115_1 ((rd_T34 l0 x10_1).f1).length c115_1, .slice A115_2 ((rd_T34 l0 x10_1).f2).length c115_2, .int .i64 ((rd_T34 l0 x10_1).f3), .int .i64 ((rd_T34 l0 x10_1).f4), .int .i64 ((rd_T34 l0 x10_1).f5)] 34 (0, 0)) (by (with_reducible repeat (first | refine blk_drewN ?_ _ | refine blk_drew ?_ | refine blk_alloc ?_ _)); exact BK116.out) hb)
                            have n1_ := Aside0.mk (below_step (by repeat (first | (with_reducible first | exact HB.out | apply below_alloc | apply pw_below_drewN | apply below_drew1 | refine below_set ?_ GE116.out) | exact HB.out)) hb)
                            clear BK116
                            clear HB
                            have BK116 := n0_
                            have HB := n1_
                            clear n0_ n1_
                            (try clear hb)
                            (try clear hb2)
                            (try clear hk)
                            (try clear hi)
                            refine hK.out _ _ ⟨(blk_cell BK116.out 0).trans rfl, (blk_cell BK116.out 1).trans rfl, (blk_cell BK116.out 2).trans rfl, (blk_cell BK116.out 3).trans rfl, (blk_cell BK116.out 4).trans rfl, (blk_cell BK116.out 5).trans rfl⟩ (fun hHeld => ?_)
                            clear hK K
                            refine norm_ (a' := ?_) ?_ ?_
                            rotate_left
                            · show Act.put _ (some 44) _ = _
                              simp only [Act.put, List.setIfInBounds_toArray, List.set_cons_zero, List.set_cons_succ, i64_w, i32_w]
                              rfl
                            refine pure_ (i := 6) (N := some 45) (v := ?_) (a' := ?_) #[true, true, true, true, true, true, true, false] rfl rfl (any_of HT_.out (by kernel_rfl)) (fun _ _ _ h => h) (Or.inl ⟨by rfl, ?_⟩) ?_ ?_
                            rotate_left
                            · intro w'
                              go_simp
                              with_reducible rfl
                            rotate_left
                            · simp only [Act.put, List.setIfInBounds_toArray, List.set_cons_zero, List.set_cons_succ, i64_w, i32_w]
                              rfl
                            refine pure_ (i := 7) (N := some 38) (v := ?_) (a' := ?_) #[true, true, true, true, true, true, true, true] rfl rfl (any_of HT_.out (by kernel_rfl)) (fun _ _ _ h => h) (Or.inl ⟨by rfl, ?_⟩) ?_ ?_
                            rotate_left
                            · intro w'
                              go_simp
                              with_reducible rfl
                            rotate_left
                            · simp only [Act.put, List.setIfInBounds_toArray, List.set_cons_zero, List.set_cons_succ, i64_w, i32_w]
                              rfl
                            refine done_ (done_of HT_.out (by kernel_rfl)) ?_
                            have hcz32_0 : w31.cell? ⟨gb116, 0, none⟩ = some (.int .i64 ((rd_T34 l0 x10_1).f0)) := (blk_cell BK116.out 0).trans rfl
                            have hcz32_1 : w31.cell? ⟨gb116, 1, none⟩ = some (.slice A115_1 ((rd_T34 l0 x10_1).f1).length c115_1) := (blk_cell BK116.out 1).trans rfl
                            have hcz32_2 : w31.cell? ⟨gb116, 2, none⟩ = some (.slice A115_2 ((rd_T34 l0 x10_1).f2).length c115_2) := (blk_cell BK116.out 2).trans rfl
                            have hcz32_3 : w31.cell? ⟨gb116, 3, none⟩ = some (.int .i64 ((rd_T34 l0 x10_1).f3)) := (blk_cell BK116.out 3).trans rfl
                            have hcz32_4 : w31.cell? ⟨gb116, 4, none⟩ = some (.int .i64 ((rd_T34 l0 x10_1).f4)) := (blk_cell BK116.out 4).trans rfl
                            have hcz32_5 : w31.cell? ⟨gb116, 5, none⟩ = some (.int .i64 ((rd_T34 l0 x10_1).f5)) := (blk_cell BK116.out 5).trans rfl
                            have hfz32_0 := blk_frozen BK116.out 0
                            have hfz32_1 := blk_frozen BK116.out 1
                            have hfz32_2 := blk_frozen BK116.out 2
                            have hfz32_3 := blk_frozen BK116.out 3
                            have hfz32_4 := blk_frozen BK116.out 4
                            have hfz32_5 := blk_frozen BK116.out 5
                            try go_wp2
                            go_ret
                            exact ⟨by first | rfl | (simp [errW_none, errW_some] <;> rfl) | (simp [*, errW_none, errW_some] <;> rfl), by repeat (first | (with_reducible first | exact HB.out | apply below_alloc | apply pw_below_drewN | apply below_drew1 | refine below_set ?_ GE116.out) | exact HB.out)⟩
                          · rw [if_neg c28] at H
                            have c28b0 : ((((rd_T34 l0 x10_1).f1).length : Int) == 0) = false := beq_eq_false_iff_ne.mpr c28
                            have c28b1 : ((((rd_T34 l0 x10_1).f1).length : Int) != 0) = true := bne_iff_ne.mpr c28
                            have c28b2 : ¬ (((rd_T34 l0 x10_1).f1) = []) := fun h_ => c28 (by rw [h_]; rfl)
                            replace H := Option.bind_eq_some_iff.mp H
                            obtain ⟨t126, A330, H⟩ := H
                            replace H : (if t126 = true then ((avalanche_rising.f kj5 ((rd_T34 l0 x10_1).f2) 9999).bind fun t127 => (if t127 = true then (avalanche_Right.l0 kj5 l0 l0 (l0.length : Int) (wrap64 (x10_1 + 1))) else (some 1))) else (some 1)) = some r := H
                            have A33 := Aside0.mk A330
                            clear A330
                            by_cases c34 : t126 = true
                            · subst c34
                              have H1 : ((avalanche_rising.f kj5 ((rd_T34 l0 x10_1).f2) 9999).bind fun t127 => (if t127 = true then (avalanche_Right.l0 kj5 l0 l0 (l0.length : Int) (wrap64 (x10_1 + 1))) else (some 1))) = some r := by rw [if_pos rfl] at H; exact H
                              clear H
                              have H := H1
                              clear H1
                              replace H := Option.bind_eq_some_iff.mp H
                              obtain ⟨t127, A350, H⟩ := H
                              replace H : (if t127 = true then (avalanche_Right.l0 kj5 l0 l0 (l0.length : Int) (wrap64 (x10_1 + 1))) else (some 1)) = some r := H
                              have A35 := Aside0.mk A350
                              clear A350
                              by_cases c36 : t127 = true
                              · subst c36
                                have H1 : (avalanche_Right.l0 kj5 l0 l0 (l0.length : Int) (wrap64 (x10_1 + 1))) = some r := by rw [if_pos rfl] at H; exact H
                                clear H
                                have H := H1
                                clear H1
                                have H' := Aside0.mk H
                                clear H
                                try go_wp2
                                have n0_ := Aside0.mk (blk_drew BK116.out)
                                have n1_ := Aside0.mk (below_drew1 HB.out)
                                clear BK116
                                clear HB
                                have BK116 := n0_
                                have HB := n1_
                                clear n0_ n1_
                                have q38 : (x10_1 : Int) ≤ ((l0.length : Int) : Int) := of_decide_eq_true (by first | (with_reducible assumption) | assumption)
                                obtain ⟨i038, hi038, _, hsz38, _⟩ := info_parts info34
                                have hroom38 : l0.length ≤ c0 := HC0.out
                                have hC38 : Kd.C k34 _ (some ad115) l0.length l0 := HR0.out
                                have hcut38 := cut_to (P := Try.prog) 22 34 .i64 Try.underlying22 hi038 (some ad115) l0.length c0 x10_1 (of_decide_eq_true (by first | (with_reducible assumption) | assumption)) q38 hroom38
                                have hr38 := Kd.C_take (m := (x10_1 : Int).toNat) hC38 (by omega)
                                have hy38 : y121.length = (x10_1 : Int).toNat := (by rw [Ny121.out, List.length_take]; omega)
                                rw [← Ny121.out] at hr38
                                rw [← hy38] at hcut38
                                have HR124 := Aside0.mk hr38
                                have HC124 := Aside0.mk (show y121.length ≤ c0 from by omega)
                                clear hr38 hC38 hroom38 hi038 hsz38
                                have KY38 := Aside0.mk hy38
                                clear hy38
                                replace q38 := eq_true q38
                                refine start_ (n := 8) (S := fun w' => w'.cell? ⟨gb116, 0, none⟩ = some (.int .i64 ((rd_T34 l0 x10_1).f0)) ∧ w'.cell? ⟨gb116, 1, none⟩ = some (.slice A115_1 ((rd_T34 l0 x10_1).f1).length c115_1) ∧ w'.cell? ⟨gb116, 2, none⟩ = some (.slice A115_2 ((rd_T34 l0 x10_1).f2).length c115_2) ∧ w'.cell? ⟨gb116, 3, none⟩ = some (.int .i64 ((rd_T34 l0 x10_1).f3)) ∧ w'.cell? ⟨gb116, 4, none⟩ = some (.int .i64 ((rd_T34 l0 x10_1).f4)) ∧ w'.cell? ⟨gb116, 5, none⟩ = some (.int .i64 ((rd_T34 l0 x10_1).f5))) (ds := []) #[false, false, false, false, false, false, false, false] (by kernel_rfl) rfl rfl ⟨(blk_cell BK116.out 0).trans rfl, (blk_cell BK116.out 1).trans rfl, (blk_cell BK116.out 2).trans rfl, (blk_cell BK116.out 3).trans rfl, (blk_cell BK116.out 4).trans rfl, (blk_cell BK116.out 5).trans rfl⟩ (fun hHeld => ?_); refine with_tabW avalanche_Right.tab8 avalanche_Right.bits8 (fun HT_ HW_ => ?_)
                                generalize wc.drew = w37 at BK116 HB HR124 hHeld ⊢
                                refine pure_ (i := 0) (N := some 39) (v := ?_) (a' := ?_) #[true, false, false, false, false, false, false, false] rfl rfl (any_of HT_.out (by kernel_rfl)) (fun _ _ _ h => h) (Or.inl ⟨by rfl, ?_⟩) ?_ ?_
                                rotate_left
                                · intro w'
                                  go_simp
                                  with_reducible rfl
                                rotate_left
                                · simp only [Act.put, List.setIfInBounds_toArray, List.set_cons_zero, List.set_cons_succ, i64_w, i32_w]
                                  rfl
                                refine pure_ (i := 1) (N := some 40) (v := ?_) (a' := ?_) #[true, true, false, false, false, false, false, false] rfl rfl (any_of HT_.out (by kernel_rfl)) (fun _ _ _ h => h) (Or.inl ⟨by rfl, ?_⟩) ?_ ?_
                                rotate_left
                                · intro w'
                                  go_simp
                                  with_reducible rfl
                                rotate_left
                                · simp only [Act.put, List.setIfInBounds_toArray, List.set_cons_zero, List.set_cons_succ, i64_w, i32_w]
                                  rfl
                                refine pure_ (i := 2) (N := some 41) (v := ?_) (a' := ?_) #[true, true, true, false, false, false, false, false] rfl rfl (any_of HT_.out (by kernel_rfl)) (fun _ _ _ h => h) (Or.inl ⟨by rfl, ?_⟩) ?_ ?_
                                rotate_left
                                · intro w'
                                  go_simp
                                  with_reducible rfl
                                rotate_left
                                · simp only [Act.put, List.setIfInBounds_toArray, List.set_cons_zero, List.set_cons_succ, i64_w, i32_w]
                                  rfl
                                refine pure_ (i := 3) (N := some 42) (v := ?_) (a' := ?_) #[true, true, true, true, false, false, false, false] rfl rfl (any_of HT_.out (by kernel_rfl)) (fun _ _ _ h => h) (Or.inl ⟨by rfl, ?_⟩) ?_ ?_
                                rotate_left
                                · intro w'
                                  go_simp
                                  with_reducible rfl
                                rotate_left
                                · simp only [Act.put, List.setIfInBounds_toArray, List.set_cons_zero, List.set_cons_succ, i64_w, i32_w]
                                  rfl
                                refine take_ (i := 4) (N := some 43) (v := ?_) (a' := ?_) #[true, true, true, true, true, false, false, false] rfl rfl (take_ofW HT_.out HW_.out (by kernel_rfl)) (fun _ _ _ h => h) (Or.inl ⟨by rfl, ?_⟩) hHeld ?_ ?_
                                rotate_left
                                · rintro w' ⟨s0, s1, s2, s3, s4, s5⟩
                                  go_simp
                                  with_reducible rfl
                                rotate_left
                                · simp only [Act.put, List.setIfInBounds_toArray, List.set_cons_zero, List.set_cons_succ, i64_w, i32_w]
                                  rfl
                                refine one_ (i := 5) (N := some 44) #[true, true, true, true, true, true, false, false] rfl rfl (one_of HT_.out (by kernel_rfl)) (by decide) (fun K hK => ?_)
                                refine goes_ Try.func34 (by kernel_rfl) rfl #[.slice (some ad115) y121.length c0, .int .i64 ((rd_T34 l0 x10_1).f0)] (by rfl) rfl rfl (by (try simp only [List.map_toArray, List.map_cons, List.map_nil]); first | done | rfl | (simp only [List.length_drop, List.length_take]; rfl)) ?_
                                with_reducible refine (avalanche_find.calls _ _ y121 ((rd_T34 l0 x10_1).f0) t125 _ ?side1 ?side2 A23.out).mono ?_
                                (case side1 => repeat (first | exact (Kd.C_below HR124.out HB.out) | (with_reducible refine Kd.C_alloc ?_ _) | (with_reducible refine Kd.C_drewN ?_ _) | (with_reducible refine Kd.C_drew ?_)))
                                (case side2 => exact HC124.out)
                                rintro e w39 ⟨rfl, hb⟩
                                refine ⟨_, rfl, ?_⟩
                                have n0_ := Aside0.mk (blk_below (g := gb116) (o := .cells #[.int .i64 ((rd_T34 l0 x10_1).f0), .slice A115_1 ((rd_T34 l0 x10_1).f1).length c115_1, .slice A115_2 ((rd_T34 l0 x10_1).f2).length c115_2, .int .i64 ((rd_T34 l0 x10_1).f3), .int .i64 ((rd_T34 l0 x10_1).f4), .int .i64 ((rd_T34 l0 x10_1).f5)] 34 (0, 0)) (by (with_reducible repeat (first | refine blk_drewN ?_ _ | refine blk_drew ?_ | refine blk_alloc ?_ _)); exact BK116.out) hb)
                                have n1_ := Aside0.mk (below_step (by repeat (first | (with_reducible first | exact HB.out | apply below_alloc | apply pw_below_drewN | apply below_drew1 | refine below_set ?_ GE116.out) | exact HB.out)) hb)
                                clear BK116
                                clear HB
                                have BK116 := n0_
                                have HB := n1_
                                clear n0_ n1_
                                (try clear hb)
                                (try clear hb2)
                                (try clear hk)
                                (try clear hi)
                                refine hK.out _ _ ⟨(blk_cell BK116.out 0).trans rfl, (blk_cell BK116.out 1).trans rfl, (blk_cell BK116.out 2).trans rfl, (blk_cell BK116.out 3).trans rfl, (blk_cell BK116.out 4).trans rfl, (blk_cell BK116.out 5).trans rfl⟩ (fun hHeld => ?_)
                                clear hK K
                                refine norm_ (a' := ?_) ?_ ?_
                                rotate_left
                                · show Act.put _ (some 44) _ = _
                                  simp only [Act.put, List.setIfInBounds_toArray, List.set_cons_zero, List.set_cons_succ, i64_w, i32_w]
                                  rfl
                                refine pure_ (i := 6) (N := some 45) (v := ?_) (a' := ?_) #[true, true, true, true, true, true, true, false] rfl rfl (any_of HT_.out (by kernel_rfl)) (fun _ _ _ h => h) (Or.inl ⟨by rfl, ?_⟩) ?_ ?_
                                rotate_left
                                · intro w'
                                  go_simp
                                  with_reducible rfl
                                rotate_left
                                · simp only [Act.put, List.setIfInBounds_toArray, List.set_cons_zero, List.set_cons_succ, i64_w, i32_w]
                                  rfl
                                refine pure_ (i := 7) (N := some 38) (v := ?_) (a' := ?_) #[true, true, true, true, true, true, true, true] rfl rfl (any_of HT_.out (by kernel_rfl)) (fun _ _ _ h => h) (Or.inl ⟨by rfl, ?_⟩) ?_ ?_
                                rotate_left
                                · intro w'
                                  go_simp
                                  with_reducible rfl
                                rotate_left
                                · simp only [Act.put, List.setIfInBounds_toArray, List.set_cons_zero, List.set_cons_succ, i64_w, i32_w]
                                  rfl
                                refine done_ (done_of HT_.out (by kernel_rfl)) ?_
                                have hcz40_0 : w39.cell? ⟨gb116, 0, none⟩ = some (.int .i64 ((rd_T34 l0 x10_1).f0)) := (blk_cell BK116.out 0).trans rfl
                                have hcz40_1 : w39.cell? ⟨gb116, 1, none⟩ = some (.slice A115_1 ((rd_T34 l0 x10_1).f1).length c115_1) := (blk_cell BK116.out 1).trans rfl
                                have hcz40_2 : w39.cell? ⟨gb116, 2, none⟩ = some (.slice A115_2 ((rd_T34 l0 x10_1).f2).length c115_2) := (blk_cell BK116.out 2).trans rfl
                                have hcz40_3 : w39.cell? ⟨gb116, 3, none⟩ = some (.int .i64 ((rd_T34 l0 x10_1).f3)) := (blk_cell BK116.out 3).trans rfl
                                have hcz40_4 : w39.cell? ⟨gb116, 4, none⟩ = some (.int .i64 ((rd_T34 l0 x10_1).f4)) := (blk_cell BK116.out 4).trans rfl
                                have hcz40_5 : w39.cell? ⟨gb116, 5, none⟩ = some (.int .i64 ((rd_T34 l0 x10_1).f5)) := (blk_cell BK116.out 5).trans rfl
                                have hfz40_0 := blk_frozen BK116.out 0
                                have hfz40_1 := blk_frozen BK116.out 1
                                have hfz40_2 := blk_frozen BK116.out 2
                                have hfz40_3 := blk_frozen BK116.out 3
                                have hfz40_4 := blk_frozen BK116.out 4
                                have hfz40_5 := blk_frozen BK116.out 5
                                try go_wp2_with (first | (go_at_call 35; (with_reducible refine (avalanche_rising.calls kj5 _ _ ((rd_T34 l0 x10_1).f1) 32 true _ ?side1 ?side2 A33.out).mono ?_); (case side1 => repeat (first | exact (Kd.C_below HR115_1.out HB.out) | (with_reducible refine Kd.C_alloc ?_ _) | (with_reducible refine Kd.C_drewN ?_ _) | (with_reducible refine Kd.C_drew ?_))); (case side2 => exact HC115_1.out); rintro e w' ⟨rfl, ⟨nd, rfl⟩⟩) | (go_at_call 35; (with_reducible refine (avalanche_rising.calls kj5 _ _ ((rd_T34 l0 x10_1).f2) 9999 true _ ?side1 ?side2 A35.out).mono ?_); (case side1 => repeat (first | exact (Kd.C_below HR115_2.out (by repeat (first | (with_reducible first | exact HB.out | apply below_alloc | apply pw_below_drewN | apply below_drew1 | refine below_set ?_ GE116.out) | exact HB.out))) | (with_reducible refine Kd.C_alloc ?_ _) | (with_reducible refine Kd.C_drewN ?_ _) | (with_reducible refine Kd.C_drew ?_))); (case side2 => exact HC115_2.out); rintro e w' ⟨rfl, ⟨nd, rfl⟩⟩))
                                go_roundg kj5
                                case measure => have := HK1.out; have := HJ5.out; omega
                                case rel => exact ⟨(wrap64 (x10_1 + 1)), (by first | rfl | (simp; done) | (simp [*]; done)), H', ⟨by have := HK1.out; have := HJ5.out; omega⟩, ⟨by repeat (first | (with_reducible first | exact HB.out | apply below_alloc | apply pw_below_drewN | apply below_drew1 | refine below_set ?_ GE116.out) | exact HB.out)⟩⟩
                              · replace c36 := Bool.eq_false_iff.mpr c36
                                subst c36
                                have H1 : (some 1) = some r := by rw [if_neg (show ¬ (false = true) by decide)] at H; exact H
                                clear H
                                have H := H1
                                clear H1
                                obtain rfl := Option.some.inj H
                                try go_wp2
                                have n0_ := Aside0.mk (blk_drew BK116.out)
                                have n1_ := Aside0.mk (below_drew1 HB.out)
                                clear BK116
                                clear HB
                                have BK116 := n0_
                                have HB := n1_
                                clear n0_ n1_
                                have q42 : (x10_1 : Int) ≤ ((l0.length : Int) : Int) := of_decide_eq_true (by first | (with_reducible assumption) | assumption)
                                obtain ⟨i042, hi042, _, hsz42, _⟩ := info_parts info34
                                have hroom42 : l0.length ≤ c0 := HC0.out
                                have hC42 : Kd.C k34 _ (some ad115) l0.length l0 := HR0.out
                                have hcut42 := cut_to (P := Try.prog) 22 34 .i64 Try.underlying22 hi042 (some ad115) l0.length c0 x10_1 (of_decide_eq_true (by first | (with_reducible assumption) | assumption)) q42 hroom42
                                have hr42 := Kd.C_take (m := (x10_1 : Int).toNat) hC42 (by omega)
                                have hy42 : y121.length = (x10_1 : Int).toNat := (by rw [Ny121.out, List.length_take]; omega)
                                rw [← Ny121.out] at hr42
                                rw [← hy42] at hcut42
                                have HR124 := Aside0.mk hr42
                                have HC124 := Aside0.mk (show y121.length ≤ c0 from by omega)
                                clear hr42 hC42 hroom42 hi042 hsz42
                                have KY42 := Aside0.mk hy42
                                clear hy42
                                replace q42 := eq_true q42
                                refine start_ (n := 8) (S := fun w' => w'.cell? ⟨gb116, 0, none⟩ = some (.int .i64 ((rd_T34 l0 x10_1).f0)) ∧ w'.cell? ⟨gb116, 1, none⟩ = some (.slice A115_1 ((rd_T34 l0 x10_1).f1).length c115_1) ∧ w'.cell? ⟨gb116, 2, none⟩ = some (.slice A115_2 ((rd_T34 l0 x10_1).f2).length c115_2) ∧ w'.cell? ⟨gb116, 3, none⟩ = some (.int .i64 ((rd_T34 l0 x10_1).f3)) ∧ w'.cell? ⟨gb116, 4, none⟩ = some (.int .i64 ((rd_T34 l0 x10_1).f4)) ∧ w'.cell? ⟨gb116, 5, none⟩ = some (.int .i64 ((rd_T34 l0 x10_1).f5))) (ds := []) #[false, false, false, false, false, false, false, false] (by kernel_rfl) rfl rfl ⟨(blk_cell BK116.out 0).trans rfl, (blk_cell BK116.out 1).trans rfl, (blk_cell BK116.out 2).trans rfl, (blk_cell BK116.out 3).trans rfl, (blk_cell BK116.out 4).trans rfl, (blk_cell BK116.out 5).trans rfl⟩ (fun hHeld => ?_); refine with_tabW avalanche_Right.tab8 avalanche_Right.bits8 (fun HT_ HW_ => ?_)
                                generalize wc.drew = w41 at BK116 HB HR124 hHeld ⊢
                                refine pure_ (i := 0) (N := some 39) (v := ?_) (a' := ?_) #[true, false, false, false, false, false, false, false] rfl rfl (any_of HT_.out (by kernel_rfl)) (fun _ _ _ h => h) (Or.inl ⟨by rfl, ?_⟩) ?_ ?_
                                rotate_left
                                · intro w'
                                  go_simp
                                  with_reducible rfl
                                rotate_left
                                · simp only [Act.put, List.setIfInBounds_toArray, List.set_cons_zero, List.set_cons_succ, i64_w, i32_w]
                                  rfl
                                refine pure_ (i := 1) (N := some 40) (v := ?_) (a' := ?_) #[true, true, false, false, false, false, false, false] rfl rfl (any_of HT_.out (by kernel_rfl)) (fun _ _ _ h => h) (Or.inl ⟨by rfl, ?_⟩) ?_ ?_
                                rotate_left
                                · intro w'
                                  go_simp
                                  with_reducible rfl
                                rotate_left
                                · simp only [Act.put, List.setIfInBounds_toArray, List.set_cons_zero, List.set_cons_succ, i64_w, i32_w]
                                  rfl
                                refine pure_ (i := 2) (N := some 41) (v := ?_) (a' := ?_) #[true, true, true, false, false, false, false, false] rfl rfl (any_of HT_.out (by kernel_rfl)) (fun _ _ _ h => h) (Or.inl ⟨by rfl, ?_⟩) ?_ ?_
                                rotate_left
                                · intro w'
                                  go_simp
                                  with_reducible rfl
                                rotate_left
                                · simp only [Act.put, List.setIfInBounds_toArray, List.set_cons_zero, List.set_cons_succ, i64_w, i32_w]
                                  rfl
                                refine pure_ (i := 3) (N := some 42) (v := ?_) (a' := ?_) #[true, true, true, true, false, false, false, false] rfl rfl (any_of HT_.out (by kernel_rfl)) (fun _ _ _ h => h) (Or.inl ⟨by rfl, ?_⟩) ?_ ?_
                                rotate_left
                                · intro w'
                                  go_simp
                                  with_reducible rfl
                                rotate_left
                                · simp only [Act.put, List.setIfInBounds_toArray, List.set_cons_zero, List.set_cons_succ, i64_w, i32_w]
                                  rfl
                                refine take_ (i := 4) (N := some 43) (v := ?_) (a' := ?_) #[true, true, true, true, true, false, false, false] rfl rfl (take_ofW HT_.out HW_.out (by kernel_rfl)) (fun _ _ _ h => h) (Or.inl ⟨by rfl, ?_⟩) hHeld ?_ ?_
                                rotate_left
                                · rintro w' ⟨s0, s1, s2, s3, s4, s5⟩
                                  go_simp
                                  with_reducible rfl
                                rotate_left
                                · simp only [Act.put, List.setIfInBounds_toArray, List.set_cons_zero, List.set_cons_succ, i64_w, i32_w]
                                  rfl
                                refine one_ (i := 5) (N := some 44) #[true, true, true, true, true, true, false, false] rfl rfl (one_of HT_.out (by kernel_rfl)) (by decide) (fun K hK => ?_)
                                refine goes_ Try.func34 (by kernel_rfl) rfl #[.slice (some ad115) y121.length c0, .int .i64 ((rd_T34 l0 x10_1).f0)] (by rfl) rfl rfl (by (try simp only [List.map_toArray, List.map_cons, List.map_nil]); first | done | rfl | (simp only [List.length_drop, List.length_take]; rfl)) ?_
                                with_reducible refine (avalanche_find.calls _ _ y121 ((rd_T34 l0 x10_1).f0) t125 _ ?side1 ?side2 A23.out).mono ?_
                                (case side1 => repeat (first | exact (Kd.C_below HR124.out HB.out) | (with_reducible refine Kd.C_alloc ?_ _) | (with_reducible refine Kd.C_drewN ?_ _) | (with_reducible refine Kd.C_drew ?_)))
                                (case side2 => exact HC124.out)
                                rintro e w43 ⟨rfl, hb⟩
                                refine ⟨_, rfl, ?_⟩
                                have n0_ := Aside0.mk (blk_below (g := gb116) (o := .cells #[.int .i64 ((rd_T34 l0 x10_1).f0), .slice A115_1 ((rd_T34 l0 x10_1).f1).length c115_1, .slice A115_2 ((rd_T34 l0 x10_1).f2).length c115_2, .int .i64 ((rd_T34 l0 x10_1).f3), .int .i64 ((rd_T34 l0 x10_1).f4), .int .i64 ((rd_T34 l0 x10_1).f5)] 34 (0, 0)) (by (with_reducible repeat (first | refine blk_drewN ?_ _ | refine blk_drew ?_ | refine blk_alloc ?_ _)); exact BK116.out) hb)
                                have n1_ := Aside0.mk (below_step (by repeat (first | (with_reducible first | exact HB.out | apply below_alloc | apply pw_below_drewN | apply below_drew1 | refine below_set ?_ GE116.out) | exact HB.out)) hb)
                                clear BK116
                                clear HB
                                have BK116 := n0_
                                have HB := n1_
                                clear n0_ n1_
                                (try clear hb)
                                (try clear hb2)
                                (try clear hk)
                                (try clear hi)
                                refine hK.out _ _ ⟨(blk_cell BK116.out 0).trans rfl, (blk_cell BK116.out 1).trans rfl, (blk_cell BK116.out 2).trans rfl, (blk_cell BK116.out 3).trans rfl, (blk_cell BK116.out 4).trans rfl, (blk_cell BK116.out 5).trans rfl⟩ (fun hHeld => ?_)
                                clear hK K
                                refine norm_ (a' := ?_) ?_ ?_
                                rotate_left
                                · show Act.put _ (some 44) _ = _
                                  simp only [Act.put, List.setIfInBounds_toArray, List.set_cons_zero, List.set_cons_succ, i64_w, i32_w]
                                  rfl
                                refine pure_ (i := 6) (N := some 45) (v := ?_) (a' := ?_) #[true, true, true, true, true, true, true, false] rfl rfl (any_of HT_.out (by kernel_rfl)) (fun _ _ _ h => h) (Or.inl ⟨by rfl, ?_⟩) ?_ ?_
                                rotate_left
                                · intro w'
                                  go_simp
                                  with_reducible rfl
                                rotate_left
                                · simp only [Act.put, List.setIfInBounds_toArray, List.set_cons_zero, List.set_cons_succ, i64_w, i32_w]
                                  rfl
                                refine pure_ (i := 7) (N := some 38) (v := ?_) (a' := ?_) #[true, true, true, true, true, true, true, true] rfl rfl (any_of HT_.out (by kernel_rfl)) (fun _ _ _ h => h) (Or.inl ⟨by rfl, ?_⟩) ?_ ?_
                                rotate_left
                                · intro w'
                                  go_simp
                                  with_reducible rfl
                                rotate_left
                                · simp only [Act.put, List.setIfInBounds_toArray, List.set_cons_zero, List.set_cons_succ, i64_w, i32_w]
                                  rfl
                                refine done_ (done_of HT_.out (by kernel_rfl)) ?_
                                have hcz44_0 : w43.cell? ⟨gb116, 0, none⟩ = some (.int .i64 ((rd_T34 l0 x10_1).f0)) := (blk_cell BK116.out 0).trans rfl
                                have hcz44_1 : w43.cell? ⟨gb116, 1, none⟩ = some (.slice A115_1 ((rd_T34 l0 x10_1).f1).length c115_1) := (blk_cell BK116.out 1).trans rfl
                                have hcz44_2 : w43.cell? ⟨gb116, 2, none⟩ = some (.slice A115_2 ((rd_T34 l0 x10_1).f2).length c115_2) := (blk_cell BK116.out 2).trans rfl
                                have hcz44_3 : w43.cell? ⟨gb116, 3, none⟩ = some (.int .i64 ((rd_T34 l0 x10_1).f3)) := (blk_cell BK116.out 3).trans rfl
                                have hcz44_4 : w43.cell? ⟨gb116, 4, none⟩ = some (.int .i64 ((rd_T34 l0 x10_1).f4)) := (blk_cell BK116.out 4).trans rfl
                                have hcz44_5 : w43.cell? ⟨gb116, 5, none⟩ = some (.int .i64 ((rd_T34 l0 x10_1).f5)) := (blk_cell BK116.out 5).trans rfl
                                have hfz44_0 := blk_frozen BK116.out 0
                                have hfz44_1 := blk_frozen BK116.out 1
                                have hfz44_2 := blk_frozen BK116.out 2
                                have hfz44_3 := blk_frozen BK116.out 3
                                have hfz44_4 := blk_frozen BK116.out 4
                                have hfz44_5 := blk_frozen BK116.out 5
                                try go_wp2_with (first | (go_at_call 35; (with_reducible refine (avalanche_rising.calls kj5 _ _ ((rd_T34 l0 x10_1).f1) 32 true _ ?side1 ?side2 A33.out).mono ?_); (case side1 => repeat (first | exact (Kd.C_below HR115_1.out HB.out) | (with_reducible refine Kd.C_alloc ?_ _) | (with_reducible refine Kd.C_drewN ?_ _) | (with_reducible refine Kd.C_drew ?_))); (case side2 => exact HC115_1.out); rintro e w' ⟨rfl, ⟨nd, rfl⟩⟩) | (go_at_call 35; (with_reducible refine (avalanche_rising.calls kj5 _ _ ((rd_T34 l0 x10_1).f2) 9999 false _ ?side1 ?side2 A35.out).mono ?_); (case side1 => repeat (first | exact (Kd.C_below HR115_2.out (by repeat (first | (with_reducible first | exact HB.out | apply below_alloc | apply pw_below_drewN | apply below_drew1 | refine below_set ?_ GE116.out) | exact HB.out))) | (with_reducible refine Kd.C_alloc ?_ _) | (with_reducible refine Kd.C_drewN ?_ _) | (with_reducible refine Kd.C_drew ?_))); (case side2 => exact HC115_2.out); rintro e w' ⟨rfl, ⟨nd, rfl⟩⟩))
                                go_ret
                                exact ⟨by first | rfl | (simp [errW_none, errW_some] <;> rfl) | (simp [*, errW_none, errW_some] <;> rfl), by repeat (first | (with_reducible first | exact HB.out | apply below_alloc | apply pw_below_drewN | apply below_drew1 | refine below_set ?_ GE116.out) | exact HB.out)⟩
                            · replace c34 := Bool.eq_false_iff.mpr c34
                              subst c34
                              have H1 : (some 1) = some r := by rw [if_neg (show ¬ (false = true) by decide)] at H; exact H
                              clear H
                              have H := H1
                              clear H1
                              obtain rfl := Option.some.inj H
                              try go_wp2
                              have n0_ := Aside0.mk (blk_drew BK116.out)
                              have n1_ := Aside0.mk (below_drew1 HB.out)
                              clear BK116
                              clear HB
                              have BK116 := n0_
                              have HB := n1_
                              clear n0_ n1_
                              have q46 : (x10_1 : Int) ≤ ((l0.length : Int) : Int) := of_decide_eq_true (by first | (with_reducible assumption) | assumption)
                              obtain ⟨i046, hi046, _, hsz46, _⟩ := info_parts info34
                              have hroom46 : l0.length ≤ c0 := HC0.out
                              have hC46 : Kd.C k34 _ (some ad115) l0.length l0 := HR0.out
                              have hcut46 := cut_to (P := Try.prog) 22 34 .i64 Try.underlying22 hi046 (some ad115) l0.length c0 x10_1 (of_decide_eq_true (by first | (with_reducible assumption) | assumption)) q46 hroom46
                              have hr46 := Kd.C_take (m := (x10_1 : Int).toNat) hC46 (by omega)
                              have hy46 : y121.length = (x10_1 : Int).toNat := (by rw [Ny121.out, List.length_take]; omega)
                              rw [← Ny121.out] at hr46
                              rw [← hy46] at hcut46
                              have HR124 := Aside0.mk hr46
                              have HC124 := Aside0.mk (show y121.length ≤ c0 from by omega)
                              clear hr46 hC46 hroom46 hi046 hsz46
                              have KY46 := Aside0.mk hy46
                              clear hy46
                              replace q46 := eq_true q46
                              refine start_ (n := 8) (S := fun w' => w'.cell? ⟨gb116, 0, none⟩ = some (.int .i64 ((rd_T34 l0 x10_1).f0)) ∧ w'.cell? ⟨gb116, 1, none⟩ = some (.slice A115_1 ((rd_T34 l0 x10_1).f1).length c115_1) ∧ w'.cell? ⟨gb116, 2, none⟩ = some (.slice A115_2 ((rd_T34 l0 x10_1).f2).length c115_2) ∧ w'.cell? ⟨gb116, 3, none⟩ = some (.int .i64 ((rd_T34 l0 x10_1).f3)) ∧ w'.cell? ⟨gb116, 4, none⟩ = some (.int .i64 ((rd_T34 l0 x10_1).f4)) ∧ w'.cell? ⟨gb116, 5, none⟩ = some (.int .i64 ((rd_T34 l0 x10_1).f5))) (ds := []) #[false, false, false, false, false, false, false, false] (by kernel_rfl) rfl rfl ⟨(blk_cell BK116.out 0).trans rfl, (blk_cell BK116.out 1).trans rfl, (blk_cell BK116.out 2).trans rfl, (blk_cell BK116.out 3).trans rfl, (blk_cell BK116.out 4).trans rfl, (blk_cell BK116.out 5).trans rfl⟩ (fun hHeld => ?_); refine with_tabW avalanche_Right.tab8 avalanche_Right.bits8 (fun HT_ HW_ => ?_)
                              generalize wc.drew = w45 at BK116 HB HR124 hHeld ⊢
                              refine pure_ (i := 0) (N := some 39) (v := ?_) (a' := ?_) #[true, false, false, false, false, false, false, false] rfl rfl (any_of HT_.out (by kernel_rfl)) (fun _ _ _ h => h) (Or.inl ⟨by rfl, ?_⟩) ?_ ?_
                              rotate_left
                              · intro w'
                                go_simp
                                with_reducible rfl
                              rotate_left
                              · simp only [Act.put, List.setIfInBounds_toArray, List.set_cons_zero, List.set_cons_succ, i64_w, i32_w]
                                rfl
                              refine pure_ (i := 1) (N := some 40) (v := ?_) (a' := ?_) #[true, true, false, false, false, false, false, false] rfl rfl (any_of HT_.out (by kernel_rfl)) (fun _ _ _ h => h) (Or.inl ⟨by rfl, ?_⟩) ?_ ?_
                              rotate_left
                              · intro w'
                                go_simp
                                with_reducible rfl
                              rotate_left
                              · simp only [Act.put, List.setIfInBounds_toArray, List.set_cons_zero, List.set_cons_succ, i64_w, i32_w]
                                rfl
                              refine pure_ (i := 2) (N := some 41) (v := ?_) (a' := ?_) #[true, true, true, false, false, false, false, false] rfl rfl (any_of HT_.out (by kernel_rfl)) (fun _ _ _ h => h) (Or.inl ⟨by rfl, ?_⟩) ?_ ?_
                              rotate_left
                              · intro w'
                                go_simp
                                with_reducible rfl
                              rotate_left
                              · simp only [Act.put, List.setIfInBounds_toArray, List.set_cons_zero, List.set_cons_succ, i64_w, i32_w]
                                rfl
                              refine pure_ (i := 3) (N := some 42) (v := ?_) (a' := ?_) #[true, true, true, true, false, false, false, false] rfl rfl (any_of HT_.out (by kernel_rfl)) (fun _ _ _ h => h) (Or.inl ⟨by rfl, ?_⟩) ?_ ?_
                              rotate_left
                              · intro w'
                                go_simp
                                with_reducible rfl
                              rotate_left
                              · simp only [Act.put, List.setIfInBounds_toArray, List.set_cons_zero, List.set_cons_succ, i64_w, i32_w]
                                rfl
                              refine take_ (i := 4) (N := some 43) (v := ?_) (a' := ?_) #[true, true, true, true, true, false, false, false] rfl rfl (take_ofW HT_.out HW_.out (by kernel_rfl)) (fun _ _ _ h => h) (Or.inl ⟨by rfl, ?_⟩) hHeld ?_ ?_
                              rotate_left
                              · rintro w' ⟨s0, s1, s2, s3, s4, s5⟩
                                go_simp
                                with_reducible rfl
                              rotate_left
                              · simp only [Act.put, List.setIfInBounds_toArray, List.set_cons_zero, List.set_cons_succ, i64_w, i32_w]
                                rfl
                              refine one_ (i := 5) (N := some 44) #[true, true, true, true, true, true, false, false] rfl rfl (one_of HT_.out (by kernel_rfl)) (by decide) (fun K hK => ?_)
                              refine goes_ Try.func34 (by kernel_rfl) rfl #[.slice (some ad115) y121.length c0, .int .i64 ((rd_T34 l0 x10_1).f0)] (by rfl) rfl rfl (by (try simp only [List.map_toArray, List.map_cons, List.map_nil]); first | done | rfl | (simp only [List.length_drop, List.length_take]; rfl)) ?_
                              with_reducible refine (avalanche_find.calls _ _ y121 ((rd_T34 l0 x10_1).f0) t125 _ ?side1 ?side2 A23.out).mono ?_
                              (case side1 => repeat (first | exact (Kd.C_below HR124.out HB.out) | (with_reducible refine Kd.C_alloc ?_ _) | (with_reducible refine Kd.C_drewN ?_ _) | (with_reducible refine Kd.C_drew ?_)))
                              (case side2 => exact HC124.out)
                              rintro e w47 ⟨rfl, hb⟩
                              refine ⟨_, rfl, ?_⟩
                              have n0_ := Aside0.mk (blk_below (g := gb116) (o := .cells #[.int .i64 ((rd_T34 l0 x10_1).f0), .slice A115_1 ((rd_T34 l0 x10_1).f1).length c115_1, .slice A115_2 ((rd_T34 l0 x10_1).f2).length c115_2, .int .i64 ((rd_T34 l0 x10_1).f3), .int .i64 ((rd_T34 l0 x10_1).f4), .int .i64 ((rd_T34 l0 x10_1).f5)] 34 (0, 0)) (by (with_reducible repeat (first | refine blk_drewN ?_ _ | refine blk_drew ?_ | refine blk_alloc ?_ _)); exact BK116.out) hb)
                              have n1_ := Aside0.mk (below_step (by repeat (first | (with_reducible first | exact HB.out | apply below_alloc | apply pw_below_drewN | apply below_drew1 | refine below_set ?_ GE116.out) | exact HB.out)) hb)
                              clear BK116
                              clear HB
                              have BK116 := n0_
                              have HB := n1_
                              clear n0_ n1_
                              (try clear hb)
                              (try clear hb2)
                              (try clear hk)
                              (try clear hi)
                              refine hK.out _ _ ⟨(blk_cell BK116.out 0).trans rfl, (blk_cell BK116.out 1).trans rfl, (blk_cell BK116.out 2).trans rfl, (blk_cell BK116.out 3).trans rfl, (blk_cell BK116.out 4).trans rfl, (blk_cell BK116.out 5).trans rfl⟩ (fun hHeld => ?_)
                              clear hK K
                              refine norm_ (a' := ?_) ?_ ?_
                              rotate_left
                              · show Act.put _ (some 44) _ = _
                                simp only [Act.put, List.setIfInBounds_toArray, List.set_cons_zero, List.set_cons_succ, i64_w, i32_w]
                                rfl
                              refine pure_ (i := 6) (N := some 45) (v := ?_) (a' := ?_) #[true, true, true, true, true, true, true, false] rfl rfl (any_of HT_.out (by kernel_rfl)) (fun _ _ _ h => h) (Or.inl ⟨by rfl, ?_⟩) ?_ ?_
                              rotate_left
                              · intro w'
                                go_simp
                                with_reducible rfl
                              rotate_left
                              · simp only [Act.put, List.setIfInBounds_toArray, List.set_cons_zero, List.set_cons_succ, i64_w, i32_w]
                                rfl
                              refine pure_ (i := 7) (N := some 38) (v := ?_) (a' := ?_) #[true, true, true, true, true, true, true, true] rfl rfl (any_of HT_.out (by kernel_rfl)) (fun _ _ _ h => h) (Or.inl ⟨by rfl, ?_⟩) ?_ ?_
                              rotate_left
                              · intro w'
                                go_simp
                                with_reducible rfl
                              rotate_left
                              · simp only [Act.put, List.setIfInBounds_toArray, List.set_cons_zero, List.set_cons_succ, i64_w, i32_w]
                                rfl
                              refine done_ (done_of HT_.out (by kernel_rfl)) ?_
                              have hcz48_0 : w47.cell? ⟨gb116, 0, none⟩ = some (.int .i64 ((rd_T34 l0 x10_1).f0)) := (blk_cell BK116.out 0).trans rfl
                              have hcz48_1 : w47.cell? ⟨gb116, 1, none⟩ = some (.slice A115_1 ((rd_T34 l0 x10_1).f1).length c115_1) := (blk_cell BK116.out 1).trans rfl
                              have hcz48_2 : w47.cell? ⟨gb116, 2, none⟩ = some (.slice A115_2 ((rd_T34 l0 x10_1).f2).length c115_2) := (blk_cell BK116.out 2).trans rfl
                              have hcz48_3 : w47.cell? ⟨gb116, 3, none⟩ = some (.int .i64 ((rd_T34 l0 x10_1).f3)) := (blk_cell BK116.out 3).trans rfl
                              have hcz48_4 : w47.cell? ⟨gb116, 4, none⟩ = some (.int .i64 ((rd_T34 l0 x10_1).f4)) := (blk_cell BK116.out 4).trans rfl
                              have hcz48_5 : w47.cell? ⟨gb116, 5, none⟩ = some (.int .i64 ((rd_T34 l0 x10_1).f5)) := (blk_cell BK116.out 5).trans rfl
                              have hfz48_0 := blk_frozen BK116.out 0
                              have hfz48_1 := blk_frozen BK116.out 1
                              have hfz48_2 := blk_frozen BK116.out 2
                              have hfz48_3 := blk_frozen BK116.out 3
                              have hfz48_4 := blk_frozen BK116.out 4
                              have hfz48_5 := blk_frozen BK116.out 5
                              try go_wp2_with (first | (go_at_call 35; (with_reducible refine (avalanche_rising.calls kj5 _ _ ((rd_T34 l0 x10_1).f1) 32 false _ ?side1 ?side2 A33.out).mono ?_); (case side1 => repeat (first | exact (Kd.C_below HR115_1.out HB.out) | (with_reducible refine Kd.C_alloc ?_ _) | (with_reducible refine Kd.C_drewN ?_ _) | (with_reducible refine Kd.C_drew ?_))); (case side2 => exact HC115_1.out); rintro e w' ⟨rfl, ⟨nd, rfl⟩⟩))
                              go_ret
                              exact ⟨by first | rfl | (simp [errW_none, errW_some] <;> rfl) | (simp [*, errW_none, errW_some] <;> rfl), by repeat (first | (with_reducible first | exact HB.out | apply below_alloc | apply pw_below_drewN | apply below_drew1 | refine below_set ?_ GE116.out) | exact HB.out)⟩
                      · rw [if_neg c22] at H
                        exact absurd H (by simp)
                    · rw [if_neg c21] at H
                      exact absurd H (by simp)
            · rw [if_neg c5] at H
              exact absurd H (by simp)
          · rw [if_neg c4] at H
            exact absurd H (by simp)
        · rw [if_neg c3] at H
          have c3b0 : decide (x10_1 < (l0.length : Int)) = false := decide_eq_false c3
          clear c3
          obtain rfl := Option.some.inj H
          go_wp2
          go_ret
          exact ⟨by first | rfl | (simp [errW_none, errW_some] <;> rfl) | (simp [*, errW_none, errW_some] <;> rfl), by repeat (first | (with_reducible first | exact HB.out | apply below_alloc | apply pw_below_drewN | apply below_drew1) | exact HB.out)⟩

end Go.Proofs.Ytfjnpdgjigkbcaa.PAll
