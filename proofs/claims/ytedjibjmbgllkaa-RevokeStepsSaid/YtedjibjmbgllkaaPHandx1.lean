/- RevokeSteps, walked by hand (printed by gsteps.py and gsteps14.py). -/
import Derived.Test.YtedjibjmbgllkaaPAllx8
import Derived.Test.YtedjibjmbgllkaaGSteps
namespace Go.Proofs.Ytedjibjmbgllkaa.PHand
open Go.RowKit Go.Proofs.Ytedjibjmbgllkaa.PAll Go.Proofs.YtedjibjmbgllkaaW.PrintWords Go.Proofs.YtedjibjmbgllkaaW.PrintLast Go.Proofs.YtedjibjmbgllkaaW.PrintMore
open Go.Proofs.Ytedjibjmbgllkaa.Pure (wr1 wr_small rd_nat Ev.cg ev_some changeS newL diffS minusS applyS rightC)
set_option linter.unusedVariables false
set_option linter.unusedSimpArgs false
def st_T11 : Bool × List (List Nat × List Nat) := (true, [([], []), ([], []), ([], []), ([1, 2], [1, 2]), ([3], [3]), ([4], [4]), ([], []), ([], []), ([6, 7], [6, 7]), ([8], [8]), ([9], [9]), ([0, 5, 10], [0, 5, 10]), ([11], [11]), ([12], [12]), ([12], [12]), ([], []), ([15, 13, 11, 0, 1, 2, 3, 4, 5, 6, 7, 8, 9, 10, 11, 12, 13, 15], [13, 15]), ([14, 16, 0, 1, 2, 3, 4, 5, 6, 7, 8, 9, 10, 11, 12, 13, 14, 15, 16], [14])])
def st_B11 : List Nat := [0, 0, 0, 6, 14, 30, 0, 0, 192, 448, 960, 2047, 4095, 8191, 8191, 0, 49151, 131071]
theorem st_tab11 : rtab .any (opsOf Try.f8 11) = st_T11 := by kernel_rfl
theorem st_bits11 : waitsOk st_T11.2 st_B11 = true := by kernel_rfl
def st_T14 : Bool × List (List Nat × List Nat) := (true, [([], []), ([], []), ([0, 1], [0, 1]), ([], []), ([], []), ([3, 4, 2], [3, 4]), ([], []), ([], []), ([6, 2, 5, 0, 1, 2, 6, 7], [2, 6]), ([7, 5, 8, 0, 1, 2, 3, 4, 5, 6, 7, 8], [5, 7])])
def st_B14 : List Nat := [0, 0, 3, 0, 0, 31, 0, 0, 255, 511]
theorem st_tab14 : rtab .any (opsOf Try.f8 14) = st_T14 := by kernel_rfl
theorem st_bits14 : waitsOk st_T14.2 st_B14 = true := by kernel_rfl
def st_T18 : Bool × List (List Nat × List Nat) := (true, [([], []), ([], []), ([1], [1]), ([], []), ([3], [3]), ([], []), ([5], [5]), ([], []), ([7], [7]), ([2, 4, 6, 8], [2, 4, 6, 8]), ([0, 9], [0, 9]), ([10, 10], [10]), ([11], [11]), ([11], [11]), ([12, 13, 11, 11], [11, 12, 13]), ([11], [11]), ([15, 11], [11, 15]), ([11], [11]), ([17, 11], [11, 17]), ([16, 18, 11], [11, 16, 18]), ([14, 19, 14, 11], [11, 14, 19]), ([11, 20], [11, 20]), ([21, 20, 0, 1, 2, 3, 4, 5, 6, 7, 8, 9, 10, 11, 12, 13, 14, 15, 16, 17, 18, 19, 20, 21], [21])])
def st_B18 : List Nat := [0, 0, 2, 0, 8, 0, 32, 0, 128, 510, 1023, 2047, 4095, 4095, 16383, 4095, 36863, 4095, 135167, 495615, 1048575, 2097151, 4194303]
theorem st_tab18 : rtab .any (opsOf Try.f8 18) = st_T18 := by kernel_rfl
theorem st_bits18 : waitsOk st_T18.2 st_B18 = true := by kernel_rfl
def skiarealaw27_RevokeSteps.f (a0_0 : Int) (l0_1 : List Int) (l1 : List S44) : Option Bool := some true
set_option maxRecDepth 100000 in
set_option maxHeartbeats 1000000 in
theorem skiarealaw27_RevokeSteps.calls (a0_0 : Int) (A0_1 : Option Addr) (c0_1 : Nat) (l0_1 : List Int) (A1 : Option Addr) (c1 : Nat) (l1 : List S44) (r : Bool) (w : World) (hr0_1 : Kd.C (Kd.int .i64) w A0_1 l0_1.length l0_1) (hc0_1 : l0_1.length ≤ c0_1) (hr1 : Kd.C k44 w A1 l1.length l1) (hc1 : l1.length ≤ c1) (h : skiarealaw27_RevokeSteps.f a0_0 l0_1 l1 = some r) :
    Calls Try.prog 8 #[.agg #[.int .i64 a0_0, .slice A0_1 l0_1.length c0_1], .slice A1 l1.length c1] w fun e w' => e = .returned (.bool r) ∧ Below w.heap.size w w' := by
  unfold skiarealaw27_RevokeSteps.f at h
  injection h with h
  subst h
  have hu24 := Try.underlying24
  have hu44 := Try.underlying44
  have HI := Aside0.mk (show Ints w A0_1 c0_1 l0_1.length l0_1 from ⟨hr0_1, hc0_1⟩)
  have H1 := Aside0.mk hr1
  clear hr0_1 hc0_1 hr1 hc1
  cases hok : Pure.okB a0_0 l0_1 with
  | false =>
    have HOK := Aside0.mk hok
    clear hok
    go_enter Try.func8, Try.ntmps8
    go_wp2_with (first
      | (go_at_call 9; (with_reducible refine (skiarealaw27_alive.calls true _ rfl).mono ?_); rintro e w1 ⟨rfl, hb⟩; have HR := Aside0.mk ((RV.new w w.heap.size rfl a0_0 l0_1.length A0_1 c0_1 l0_1 HI.out).below hb); have HB := Aside0.mk ((below_alloc (Below.refl w.heap.size w) _).trans (hb.mono (by simp))); have HBR := Aside0.mk (blk_below (blk_new w (.cells #[.int .i64 a0_0, .slice A0_1 l0_1.length c0_1] 24)) hb); clear hb; have hr0 := HR.out.v0; have hr1 := HR.out.v1)
      | (go_at_call 12; (with_reducible refine (c_law _ _ false HOK.out _ _ _ HR.out.ints).mono ?_); rintro e w2 ⟨rfl, hb⟩; have m_ := Aside0.mk (HR.out.below hb); have n_ := Aside0.mk (HB.out.trans (hb.mono HB.out.size)); clear HR HB hr0 hr1; have HR := m_; have HB := n_; clear m_ n_ hb; have hr0 := HR.out.v0; have hr1 := HR.out.v1))
    go_ret
    exact ⟨rfl, HB.out⟩
  | true =>
    have hr := (Pure.right_zero a0_0 l0_1).1 (of_decide_eq_true hok)
    have HRT := Aside0.mk (show rightC a0_0 l0_1 = 0 from of_decide_eq_true hok)
    have HOK := Aside0.mk hok
    clear hok
    by_cases h30 : l1.length > 30
    · have h30z : (l1.length : Int) > 30 := by omega
      go_enter Try.func8, Try.ntmps8
      go_wp2_with (first
        | (go_at_call 9; (with_reducible refine (skiarealaw27_alive.calls true _ rfl).mono ?_); rintro e w1 ⟨rfl, hb⟩; have HR := Aside0.mk ((RV.new w w.heap.size rfl a0_0 l0_1.length A0_1 c0_1 l0_1 HI.out).below hb); have HB := Aside0.mk ((below_alloc (Below.refl w.heap.size w) _).trans (hb.mono (by simp))); have HBR := Aside0.mk (blk_below (blk_new w (.cells #[.int .i64 a0_0, .slice A0_1 l0_1.length c0_1] 24)) hb); clear hb; have hr0 := HR.out.v0; have hr1 := HR.out.v1)
        | (go_at_call 12; (with_reducible refine (c_law _ _ true HOK.out _ _ _ HR.out.ints).mono ?_); rintro e w2 ⟨rfl, hb⟩; have m_ := Aside0.mk (HR.out.below hb); have n_ := Aside0.mk (HB.out.trans (hb.mono HB.out.size)); clear HR HB hr0 hr1; have HR := m_; have HB := n_; clear m_ n_ hb; have hr0 := HR.out.v0; have hr1 := HR.out.v1))
      go_ret
      exact ⟨rfl, HB.out⟩
    · have h30z : ¬ (l1.length : Int) > 30 := by omega
      go_enter Try.func8, Try.ntmps8
      go_wp2_with (first
        | (go_at_call 9; (with_reducible refine (skiarealaw27_alive.calls true _ rfl).mono ?_); rintro e w1 ⟨rfl, hb⟩; have HR := Aside0.mk ((RV.new w w.heap.size rfl a0_0 l0_1.length A0_1 c0_1 l0_1 HI.out).below hb); have HB := Aside0.mk ((below_alloc (Below.refl w.heap.size w) _).trans (hb.mono (by simp))); have HBR := Aside0.mk (blk_below (blk_new w (.cells #[.int .i64 a0_0, .slice A0_1 l0_1.length c0_1] 24)) hb); clear hb; have hr0 := HR.out.v0; have hr1 := HR.out.v1)
        | (go_at_call 12; (with_reducible refine (c_law _ _ true HOK.out _ _ _ HR.out.ints).mono ?_); rintro e w2 ⟨rfl, hb⟩; have HX := Aside0.mk (show ST w (w2.alloc (.cells #[.int .i64 a0_0, .slice A0_1 l0_1.length c0_1] 24)) w.heap.size w2.heap.size a0_0 A0_1 l0_1.length c0_1 a0_0 A0_1 c0_1 l0_1 from ⟨below_alloc (HB.out.trans (hb.mono HB.out.size)) _, blk_below (blk_below HBR.out hb) (below_alloc (Below.refl _ _) _), blk_new _ _, Nat.le_refl _, (HB.out.trans (hb.mono HB.out.size)).size, Nat.ne_of_lt (blk_lt (blk_below HBR.out hb)), .inl HI.out⟩); have m_ := Aside0.mk (HR.out.below hb); have n_ := Aside0.mk (HB.out.trans (hb.mono HB.out.size)); clear HR HB hr0 hr1; have HR := m_; have HB := n_; clear m_ n_ hb; have hr0 := HR.out.v0; have hr1 := HR.out.v1))
      clear hr0 hr1
      go_loopg [6] l1.length (fun gg s6 W => ∃ (i : Nat) (x : Int) (Ax : Option Addr) (cx : Nat) (q : List Int), i ≤ l1.length ∧ l1.length - i ≤ gg ∧ s6 = .int .i64 (i : Int) ∧ Aside0 (ST w W w.heap.size w2.heap.size a0_0 A0_1 l0_1.length c0_1 x Ax cx q) ∧ Aside0 (rightC x q = 0 ∧ a0_0 ≤ x ∧ x ≤ a0_0 + i))
      case atStart => exact ⟨0, a0_0, A0_1, c0_1, l0_1, Nat.zero_le _, by omega, rfl, HX, ⟨HRT.out, Int.le_refl _, by omega⟩⟩
      case round =>
        obtain ⟨i, x, Ax, cx, q, hi, hg, rfl, HS, HQ⟩ := hrel
        by_cases hlt : i < l1.length
        · have hltz : (i : Int) < (l1.length : Int) := by omega
          obtain ⟨ad, B0, d0, B1, d1, ead, hx0, hx1, hl0, hC0, hl1, hC1⟩ := at_T44 H1.out (i : Int) (by omega) (by omega)
          subst ead
          have hrd : rd_T44 l1 (i : Int) = l1[i] := by simp [rd_T44, List.getD_eq_getElem?_getD, hlt]
          rw [hrd] at hx0 hx1 hl0 hl1 hC0 hC1
          rw [Int.toNat_natCast] at hx0 hx1
          obtain ⟨y, hy⟩ : ∃ y, y = l1[i] := ⟨_, rfl⟩
          rw [← hy] at hx0 hx1 hl0 hl1 hC0 hC1
          have HF0 := Aside0.mk (show Ints w B0 d0 y.f0.length y.f0 from ⟨hC0, hl0⟩)
          have HF1 := Aside0.mk (show Ints w B1 d1 y.f1.length y.f1 from ⟨hC1, hl1⟩)
          have HE0 := Aside0.mk (pw_cell_below HS.out.below hx0)
          have HE1 := Aside0.mk (pw_cell_below HS.out.below hx1)
          clear hx0 hx1 hl0 hC0 hl1 hC1 hrd hy
          have hx0 := HE0.out
          have hx1 := HE1.out
          cases hf0 : decide (y.f0.length ≤ 250) with
          | false =>
            have HD0 := Aside0.mk hf0
            clear hf0
            go_wp2_with (first | (go_at_call 15; (with_reducible refine (c_few y.f0 false HD0.out _ B0 d0 (HF0.out.below HS.out.below)).mono ?_); rintro e w3 ⟨rfl, hb⟩; have n0 := Aside0.mk (HS.out.on hb); have n1 := Aside0.mk (pw_cell_below hb HE0.out); have n2 := Aside0.mk (pw_cell_below hb HE1.out); clear HS HE0 HE1 hx0 hx1 hb; have HS := n0; have HE0 := n1; have HE1 := n2; clear n0 n1 n2; have hx0 := HE0.out; have hx1 := HE1.out))
            go_ret
            exact ⟨rfl, HS.out.below⟩
          | true =>
            have hn0 : y.f0.length ≤ 250 := of_decide_eq_true hf0
            have HD0 := Aside0.mk hf0
            clear hf0
            cases hf1 : decide (y.f1.length ≤ 250) with
            | false =>
              have HD1 := Aside0.mk hf1
              clear hf1
              go_wp2_with (first | (go_at_call 15; (with_reducible refine (c_few y.f0 true HD0.out _ B0 d0 (HF0.out.below HS.out.below)).mono ?_); rintro e w3 ⟨rfl, hb⟩; have n0 := Aside0.mk (HS.out.on hb); have n1 := Aside0.mk (pw_cell_below hb HE0.out); have n2 := Aside0.mk (pw_cell_below hb HE1.out); clear HS HE0 HE1 hx0 hx1 hb; have HS := n0; have HE0 := n1; have HE1 := n2; clear n0 n1 n2; have hx0 := HE0.out; have hx1 := HE1.out) | (go_at_call 15; (with_reducible refine (c_few y.f1 false HD1.out _ B1 d1 (HF1.out.below HS.out.below)).mono ?_); rintro e w4 ⟨rfl, hb⟩; have n0 := Aside0.mk (HS.out.on hb); have n1 := Aside0.mk (pw_cell_below hb HE0.out); have n2 := Aside0.mk (pw_cell_below hb HE1.out); clear HS HE0 HE1 hx0 hx1 hb; have HS := n0; have HE0 := n1; have HE1 := n2; clear n0 n1 n2; have hx0 := HE0.out; have hx1 := HE1.out))
              go_ret
              exact ⟨rfl, HS.out.below⟩
            | true =>
              have hn1 : y.f1.length ≤ 250 := of_decide_eq_true hf1
              have HD1 := Aside0.mk hf1
              clear hf1
              have hq := (Pure.right_zero x q).1 HQ.out.1
              obtain ⟨x1, x2, x3, hcs⟩ : ∃ x1 x2 x3, changeS x q y.f0 y.f1 = (x1, x2, x3) := ⟨_, _, _, rfl⟩
              have HCS := Aside0.mk hcs
              have HN := Aside0.mk (show (0 ≤ x ∧ x ≤ 1000000) ∧ q.length ≤ 1000 ∧ y.f0.length ≤ 1000 ∧ y.f1.length ≤ 1000 from ⟨hq.1, by omega, by omega, by omega⟩)
              clear hq hcs hn0 hn1
              go_wp2_with (first | (go_at_call 15; (with_reducible refine (c_few y.f0 true HD0.out _ B0 d0 (HF0.out.below HS.out.below)).mono ?_); rintro e w3 ⟨rfl, hb⟩; have n0 := Aside0.mk (HS.out.on hb); have n1 := Aside0.mk (pw_cell_below hb HE0.out); have n2 := Aside0.mk (pw_cell_below hb HE1.out); clear HS HE0 HE1 hx0 hx1 hb; have HS := n0; have HE0 := n1; have HE1 := n2; clear n0 n1 n2; have hx0 := HE0.out; have hx1 := HE1.out) | (go_at_call 15; (with_reducible refine (c_few y.f1 true HD1.out _ B1 d1 (HF1.out.below HS.out.below)).mono ?_); rintro e w4 ⟨rfl, hb⟩; have n0 := Aside0.mk (HS.out.on hb); have n1 := Aside0.mk (pw_cell_below hb HE0.out); have n2 := Aside0.mk (pw_cell_below hb HE1.out); clear HS HE0 HE1 hx0 hx1 hb; have HS := n0; have HE0 := n1; have HE1 := n2; clear n0 n1 n2; have hx0 := HE0.out; have hx1 := HE1.out))
              clear hx0 hx1
              have n0 := Aside0.mk (HS.out.on (below_drew (Below.refl _ _)))
              have n1 := Aside0.mk (pw_cell_below (below_drew (Below.refl _ _)) HE0.out)
              have n2 := Aside0.mk (pw_cell_below (below_drew (Below.refl _ _)) HE1.out)
              clear HS HE0 HE1
              have HS := n0
              have HE0 := n1
              have HE1 := n2
              clear n0 n1 n2
              refine start_ (n := 18) (S := fun w' => w'.cell? ⟨w2.heap.size, 0, none⟩ = some (.int .i64 x) ∧ w'.cell? ⟨w2.heap.size, 1, none⟩ = some (.slice Ax q.length cx) ∧ w'.cell? (ad.add (i * 2)) = some (.slice B0 y.f0.length d0) ∧ w'.cell? ⟨(ad.add (i * 2)).block, (ad.add (i * 2)).off + 1, none⟩ = some (.slice B1 y.f1.length d1)) (ds := []) #[false, false, false, false, false, false, false, false, false, false, false, false, false, false, false, false, false, false] (by kernel_rfl) rfl rfl ⟨HS.out.x0, HS.out.x1, HE0.out, HE1.out⟩ (fun hHeld => ?_); refine with_tabW st_tab11 st_bits11 (fun HT_ HW_ => ?_)
              generalize w4.drew = w5 at HS HE0 HE1 hHeld ⊢
              have HB5 := Aside0.mk (Below.refl w5.heap.size w5)
              refine pure_ (i := 1) (N := some 48) (v := ?_) (a' := ?_) #[false, true, false, false, false, false, false, false, false, false, false, false, false, false, false, false, false, false] rfl rfl (any_of HT_.out (by kernel_rfl)) (fun _ _ _ h => h) (Or.inl ⟨by rfl, ?_⟩) ?_ ?_
              rotate_left
              · intro w'
                go_simp
                with_reducible rfl
              rotate_left
              · simp only [Act.put, List.setIfInBounds_toArray, List.set_cons_zero, List.set_cons_succ, i64_w, i32_w]
                rfl
              refine pure_ (i := 2) (N := some 49) (v := ?_) (a' := ?_) #[false, true, true, false, false, false, false, false, false, false, false, false, false, false, false, false, false, false] rfl rfl (any_of HT_.out (by kernel_rfl)) (fun _ _ _ h => h) (Or.inl ⟨by rfl, ?_⟩) ?_ ?_
              rotate_left
              · intro w'
                go_simp
                with_reducible rfl
              rotate_left
              · simp only [Act.put, List.setIfInBounds_toArray, List.set_cons_zero, List.set_cons_succ, i64_w, i32_w]
                rfl
              refine pure_ (i := 3) (N := some 50) (v := ?_) (a' := ?_) #[false, true, true, true, false, false, false, false, false, false, false, false, false, false, false, false, false, false] rfl rfl (any_of HT_.out (by kernel_rfl)) (fun _ _ _ h => h) (Or.inl ⟨by rfl, ?_⟩) ?_ ?_
              rotate_left
              · intro w'
                go_simp
                with_reducible rfl
              rotate_left
              · simp only [Act.put, List.setIfInBounds_toArray, List.set_cons_zero, List.set_cons_succ, i64_w, i32_w]
                rfl
              refine pure_ (i := 4) (N := some 51) (v := ?_) (a' := ?_) #[false, true, true, true, true, false, false, false, false, false, false, false, false, false, false, false, false, false] rfl rfl (any_of HT_.out (by kernel_rfl)) (fun _ _ _ h => h) (Or.inl ⟨by rfl, ?_⟩) ?_ ?_
              rotate_left
              · intro w'
                go_simp
                with_reducible rfl
              rotate_left
              · simp only [Act.put, List.setIfInBounds_toArray, List.set_cons_zero, List.set_cons_succ, i64_w, i32_w]
                rfl
              refine pure_ (i := 6) (N := some 53) (v := ?_) (a' := ?_) #[false, true, true, true, true, false, true, false, false, false, false, false, false, false, false, false, false, false] rfl rfl (any_of HT_.out (by kernel_rfl)) (fun _ _ _ h => h) (Or.inl ⟨by rfl, ?_⟩) ?_ ?_
              rotate_left
              · intro w'
                go_simp
                with_reducible rfl
              rotate_left
              · simp only [Act.put, List.setIfInBounds_toArray, List.set_cons_zero, List.set_cons_succ, i64_w, i32_w]
                rfl
              refine pure_ (i := 7) (N := some 54) (v := ?_) (a' := ?_) #[false, true, true, true, true, false, true, true, false, false, false, false, false, false, false, false, false, false] rfl rfl (any_of HT_.out (by kernel_rfl)) (fun _ _ _ h => h) (Or.inl ⟨by rfl, ?_⟩) ?_ ?_
              rotate_left
              · intro w'
                go_simp
                with_reducible rfl
              rotate_left
              · simp only [Act.put, List.setIfInBounds_toArray, List.set_cons_zero, List.set_cons_succ, i64_w, i32_w]
                rfl
              refine pure_ (i := 8) (N := some 55) (v := ?_) (a' := ?_) #[false, true, true, true, true, false, true, true, true, false, false, false, false, false, false, false, false, false] rfl rfl (any_of HT_.out (by kernel_rfl)) (fun _ _ _ h => h) (Or.inl ⟨by rfl, ?_⟩) ?_ ?_
              rotate_left
              · intro w'
                go_simp
                with_reducible rfl
              rotate_left
              · simp only [Act.put, List.setIfInBounds_toArray, List.set_cons_zero, List.set_cons_succ, i64_w, i32_w]
                rfl
              refine pure_ (i := 9) (N := some 56) (v := ?_) (a' := ?_) #[false, true, true, true, true, false, true, true, true, true, false, false, false, false, false, false, false, false] rfl rfl (any_of HT_.out (by kernel_rfl)) (fun _ _ _ h => h) (Or.inl ⟨by rfl, ?_⟩) ?_ ?_
              rotate_left
              · intro w'
                go_simp
                with_reducible rfl
              rotate_left
              · simp only [Act.put, List.setIfInBounds_toArray, List.set_cons_zero, List.set_cons_succ, i64_w, i32_w]
                rfl
              refine take_ (i := 0) (N := some 47) (v := ?_) (a' := ?_) #[true, true, true, true, true, false, true, true, true, true, false, false, false, false, false, false, false, false] rfl rfl (take_ofW HT_.out HW_.out (by kernel_rfl)) (fun _ _ _ h => h) (Or.inl ⟨by rfl, ?_⟩) hHeld ?_ ?_
              rotate_left
              · rintro w' ⟨s0, s1, s2, s3⟩
                go_simp
                with_reducible rfl
              rotate_left
              · simp only [Act.put, List.setIfInBounds_toArray, List.set_cons_zero, List.set_cons_succ, i64_w, i32_w]
                rfl
              refine take_ (i := 5) (N := some 52) (v := ?_) (a' := ?_) #[true, true, true, true, true, true, true, true, true, true, false, false, false, false, false, false, false, false] rfl rfl (take_ofW HT_.out HW_.out (by kernel_rfl)) (fun _ _ _ h => h) (Or.inl ⟨by rfl, ?_⟩) hHeld ?_ ?_
              rotate_left
              · rintro w' ⟨s0, s1, s2, s3⟩
                go_simp
                with_reducible rfl
              rotate_left
              · simp only [Act.put, List.setIfInBounds_toArray, List.set_cons_zero, List.set_cons_succ, i64_w, i32_w]
                rfl
              refine take_ (i := 10) (N := some 57) (v := ?_) (a' := ?_) #[true, true, true, true, true, true, true, true, true, true, true, false, false, false, false, false, false, false] rfl rfl (take_ofW HT_.out HW_.out (by kernel_rfl)) (fun _ _ _ h => h) (Or.inl ⟨by rfl, ?_⟩) hHeld ?_ ?_
              rotate_left
              · rintro w' ⟨s0, s1, s2, s3⟩
                go_simp
                with_reducible rfl
              rotate_left
              · simp only [Act.put, List.setIfInBounds_toArray, List.set_cons_zero, List.set_cons_succ, i64_w, i32_w]
                rfl
              refine join_ (σ := Option Addr × Nat × Nat) 2 #[true, true, true, true, true, true, true, true, true, true, true, true, true, true, true, true, false, false] (fun s_ => [(58, .tuple #[.agg #[.int .i64 x1, .slice s_.1 x2.length s_.2.1], .int .i64 x3]), (46, .tuple #[.agg #[.int .i64 x1, .slice s_.1 x2.length s_.2.1], .int .i64 x3]), (59, .agg #[.int .i64 x1, .slice s_.1 x2.length s_.2.1]), (60, .int .i64 x3), (7, .pointer (some ⟨s_.2.2, 0, none⟩))]) (fun s_ w' => Below w5.heap.size w5 w' ∧ w5.heap.size ≤ s_.2.2 ∧ RR w' (.slice s_.1 x2.length s_.2.1) x2 ∧ w'.heap[s_.2.2]? = some (.cells #[.int .i64 0, .slice none 0 0] 24 (0, 0))) ?_ ?_
              rotate_left
              · intro hCont
                refine two_ (i := 11) (j := 15) (Ni := some 58) (Nj := some 7) #[true, true, true, true, true, true, true, true, true, true, true, true, false, false, false, false, false, false] #[true, true, true, true, true, true, true, true, true, true, true, false, false, false, false, true, false, false] rfl rfl rfl rfl (two_of HT_.out (by kernel_rfl)) (by decide) (by decide) (fun K hK => ?_) (fun K hK => ?_)
                · refine goes_ Try.func16 (by kernel_rfl) rfl #[.agg #[.int .i64 x, .slice Ax q.length cx], .slice B0 y.f0.length d0, .slice B1 y.f1.length d1] (by rfl) rfl rfl (by (try simp only [List.map_toArray, List.map_cons, List.map_nil]); first | done | rfl) ?_
                  refine (s_change x q y.f0 y.f1 x1 x2 x3 HCS.out _ _ _ _ _ _ _ HN.out.1 HN.out.2.1 HN.out.2.2.1 HN.out.2.2.2 ((HS.out.on HB5.out).xl.ints (HS.out.on HB5.out).below) (HF0.out.below (HS.out.on HB5.out).below) (HF1.out.below (HS.out.on HB5.out).below)).mono ?_
                  rintro e w101 ⟨A5, c5, rfl, hR5, hb⟩
                  refine ⟨_, rfl, ?_⟩
                  have HR5 := Aside0.mk hR5
                  replace HB5 := Aside0.mk (HB5.out.trans (hb.mono HB5.out.size))
                  refine hK.out _ _ ⟨(HS.out.on HB5.out).x0, (HS.out.on HB5.out).x1, pw_cell_below HB5.out HE0.out, pw_cell_below HB5.out HE1.out⟩ (fun hHeld => ?_)
                  clear hK K
                  refine norm_ (a' := ?_) ?_ ?_
                  rotate_left
                  · show Act.put _ (some 58) _ = _
                    simp only [Act.put, List.setIfInBounds_toArray, List.set_cons_zero, List.set_cons_succ, i64_w, i32_w]
                    rfl
                  refine pure_ (i := 12) (N := some 46) (v := ?_) (a' := ?_) #[true, true, true, true, true, true, true, true, true, true, true, true, true, false, false, false, false, false] rfl rfl (any_of HT_.out (by kernel_rfl)) (fun _ _ _ h => h) (Or.inl ⟨by rfl, ?_⟩) ?_ ?_
                  rotate_left
                  · intro w'
                    go_simp
                    with_reducible rfl
                  rotate_left
                  · simp only [Act.put, List.setIfInBounds_toArray, List.set_cons_zero, List.set_cons_succ, i64_w, i32_w]
                    rfl
                  refine pure_ (i := 13) (N := some 59) (v := ?_) (a' := ?_) #[true, true, true, true, true, true, true, true, true, true, true, true, true, true, false, false, false, false] rfl rfl (any_of HT_.out (by kernel_rfl)) (fun _ _ _ h => h) (Or.inl ⟨by rfl, ?_⟩) ?_ ?_
                  rotate_left
                  · intro w'
                    go_simp
                    with_reducible rfl
                  rotate_left
                  · simp only [Act.put, List.setIfInBounds_toArray, List.set_cons_zero, List.set_cons_succ, i64_w, i32_w]
                    rfl
                  refine pure_ (i := 14) (N := some 60) (v := ?_) (a' := ?_) #[true, true, true, true, true, true, true, true, true, true, true, true, true, true, true, false, false, false] rfl rfl (any_of HT_.out (by kernel_rfl)) (fun _ _ _ h => h) (Or.inl ⟨by rfl, ?_⟩) ?_ ?_
                  rotate_left
                  · intro w'
                    go_simp
                    with_reducible rfl
                  rotate_left
                  · simp only [Act.put, List.setIfInBounds_toArray, List.set_cons_zero, List.set_cons_succ, i64_w, i32_w]
                    rfl
                  refine one_ (i := 15) (N := some 7) #[true, true, true, true, true, true, true, true, true, true, true, true, true, true, true, true, false, false] rfl rfl (one_of HT_.out (by kernel_rfl)) (by decide) (fun K hK => ?_)
                  refine box_step ?hg (N := 7) ?hd (cs := #[.int .i64 0, .slice none 0 0]) (t := 24) ?hr ?_; (case hd => rfl); (case hg => rfl); (case hr => first | (go_simp; done) | (go_simp; rfl))
                  intro g7 hg7 w102 hbox hb
                  have HX7 := Aside0.mk hbox
                  have HG7 := Aside0.mk (show w5.heap.size ≤ g7 by rw [hg7]; exact HB5.out.size)
                  replace HB5 := Aside0.mk (HB5.out.trans (hb.mono HB5.out.size))
                  replace HR5 := Aside0.mk (PAll.RR.below HR5.out hb)
                  clear hg7 hbox
                  refine hK.out _ _ ⟨(HS.out.on HB5.out).x0, (HS.out.on HB5.out).x1, pw_cell_below HB5.out HE0.out, pw_cell_below HB5.out HE1.out⟩ (fun hHeld => ?_)
                  clear hK K
                  refine norm_ (a' := ?_) ?_ ?_
                  rotate_left
                  · show Act.put _ (some 7) _ = _
                    simp only [Act.put, List.setIfInBounds_toArray, List.set_cons_zero, List.set_cons_succ, i64_w, i32_w]
                    rfl
                  exact norm_ (by simp only [putAll, Act.put, List.setIfInBounds_toArray, List.set_cons_zero, List.set_cons_succ]) (hCont (A5, c5, g7) _ ⟨HB5.out, HG7.out, HR5.out, HX7.out⟩)
                · refine box_step ?hg (N := 7) ?hd (cs := #[.int .i64 0, .slice none 0 0]) (t := 24) ?hr ?_; (case hd => rfl); (case hg => rfl); (case hr => first | (go_simp; done) | (go_simp; rfl))
                  intro g7 hg7 w103 hbox hb
                  have HX7 := Aside0.mk hbox
                  have HG7 := Aside0.mk (show w5.heap.size ≤ g7 by rw [hg7]; exact HB5.out.size)
                  replace HB5 := Aside0.mk (HB5.out.trans (hb.mono HB5.out.size))
                  clear hg7 hbox
                  refine hK.out _ _ ⟨(HS.out.on HB5.out).x0, (HS.out.on HB5.out).x1, pw_cell_below HB5.out HE0.out, pw_cell_below HB5.out HE1.out⟩ (fun hHeld => ?_)
                  clear hK K
                  refine norm_ (a' := ?_) ?_ ?_
                  rotate_left
                  · show Act.put _ (some 7) _ = _
                    simp only [Act.put, List.setIfInBounds_toArray, List.set_cons_zero, List.set_cons_succ, i64_w, i32_w]
                    rfl
                  refine one_ (i := 11) (N := some 58) #[true, true, true, true, true, true, true, true, true, true, true, true, false, false, false, true, false, false] rfl rfl (one_of HT_.out (by kernel_rfl)) (by decide) (fun K hK => ?_)
                  refine goes_ Try.func16 (by kernel_rfl) rfl #[.agg #[.int .i64 x, .slice Ax q.length cx], .slice B0 y.f0.length d0, .slice B1 y.f1.length d1] (by rfl) rfl rfl (by (try simp only [List.map_toArray, List.map_cons, List.map_nil]); first | done | rfl) ?_
                  refine (s_change x q y.f0 y.f1 x1 x2 x3 HCS.out _ _ _ _ _ _ _ HN.out.1 HN.out.2.1 HN.out.2.2.1 HN.out.2.2.2 ((HS.out.on HB5.out).xl.ints (HS.out.on HB5.out).below) (HF0.out.below (HS.out.on HB5.out).below) (HF1.out.below (HS.out.on HB5.out).below)).mono ?_
                  rintro e w104 ⟨A5, c5, rfl, hR5, hb⟩
                  refine ⟨_, rfl, ?_⟩
                  have HR5 := Aside0.mk hR5
                  replace HB5 := Aside0.mk (HB5.out.trans (hb.mono HB5.out.size))
                  replace HX7 := Aside0.mk (blk_below HX7.out hb)
                  refine hK.out _ _ ⟨(HS.out.on HB5.out).x0, (HS.out.on HB5.out).x1, pw_cell_below HB5.out HE0.out, pw_cell_below HB5.out HE1.out⟩ (fun hHeld => ?_)
                  clear hK K
                  refine norm_ (a' := ?_) ?_ ?_
                  rotate_left
                  · show Act.put _ (some 58) _ = _
                    simp only [Act.put, List.setIfInBounds_toArray, List.set_cons_zero, List.set_cons_succ, i64_w, i32_w]
                    rfl
                  refine pure_ (i := 12) (N := some 46) (v := ?_) (a' := ?_) #[true, true, true, true, true, true, true, true, true, true, true, true, true, false, false, true, false, false] rfl rfl (any_of HT_.out (by kernel_rfl)) (fun _ _ _ h => h) (Or.inl ⟨by rfl, ?_⟩) ?_ ?_
                  rotate_left
                  · intro w'
                    go_simp
                    with_reducible rfl
                  rotate_left
                  · simp only [Act.put, List.setIfInBounds_toArray, List.set_cons_zero, List.set_cons_succ, i64_w, i32_w]
                    rfl
                  refine pure_ (i := 13) (N := some 59) (v := ?_) (a' := ?_) #[true, true, true, true, true, true, true, true, true, true, true, true, true, true, false, true, false, false] rfl rfl (any_of HT_.out (by kernel_rfl)) (fun _ _ _ h => h) (Or.inl ⟨by rfl, ?_⟩) ?_ ?_
                  rotate_left
                  · intro w'
                    go_simp
                    with_reducible rfl
                  rotate_left
                  · simp only [Act.put, List.setIfInBounds_toArray, List.set_cons_zero, List.set_cons_succ, i64_w, i32_w]
                    rfl
                  refine pure_ (i := 14) (N := some 60) (v := ?_) (a' := ?_) #[true, true, true, true, true, true, true, true, true, true, true, true, true, true, true, true, false, false] rfl rfl (any_of HT_.out (by kernel_rfl)) (fun _ _ _ h => h) (Or.inl ⟨by rfl, ?_⟩) ?_ ?_
                  rotate_left
                  · intro w'
                    go_simp
                    with_reducible rfl
                  rotate_left
                  · simp only [Act.put, List.setIfInBounds_toArray, List.set_cons_zero, List.set_cons_succ, i64_w, i32_w]
                    rfl
                  exact norm_ (by simp only [putAll, Act.put, List.setIfInBounds_toArray, List.set_cons_zero, List.set_cons_succ]) (hCont (A5, c5, g7) _ ⟨HB5.out, HG7.out, HR5.out, HX7.out⟩)
              rintro ⟨A5, c5, g7⟩ w6 ⟨hB, hG, hR, hX⟩
              dsimp only at hB hG hR hX
              replace HB5 := Aside0.mk hB
              have HG7 := Aside0.mk hG
              have HR5 := Aside0.mk hR
              have HX7 := Aside0.mk hX
              clear hB hG hR hX hHeld
              have hHeld : w6.cell? ⟨w2.heap.size, 0, none⟩ = some (.int .i64 x) ∧ w6.cell? ⟨w2.heap.size, 1, none⟩ = some (.slice Ax q.length cx) ∧ w6.cell? (ad.add (i * 2)) = some (.slice B0 y.f0.length d0) ∧ w6.cell? ⟨(ad.add (i * 2)).block, (ad.add (i * 2)).off + 1, none⟩ = some (.slice B1 y.f1.length d1) := ⟨(HS.out.on HB5.out).x0, (HS.out.on HB5.out).x1, pw_cell_below HB5.out HE0.out, pw_cell_below HB5.out HE1.out⟩
              refine norm_ (a' := ?_) ?_ ?_
              rotate_left
              · simp only [putAll, Act.put, List.setIfInBounds_toArray, List.set_cons_zero, List.set_cons_succ]
                rfl
              refine one_ (i := 16) (N := none) #[true, true, true, true, true, true, true, true, true, true, true, true, true, true, true, true, true, false] rfl rfl (one_of HT_.out (by kernel_rfl)) (by decide) (fun K hK => ?_)
              have hs0 : w6.cell? ⟨g7, 0, none⟩ = some (.int .i64 0) := (blk_cell HX7.out 0).trans rfl
              have hfs0 := blk_frozen HX7.out 0
              have hs1 : w6.cell? ⟨g7, 1, none⟩ = some (.slice none 0 0) := (blk_cell HX7.out 1).trans rfl
              have hfs1 := blk_frozen HX7.out 1
              refine skip_ (w1 := ?_) (by rfl) rfl ?_ ?_
              rotate_left
              · go_simp
                rfl
              have HBE := Aside0.mk (show Below w5.heap.size w5 ((w6.setCell ⟨g7, 0, none⟩ (.int .i64 x1)).setCell ⟨g7, 1, none⟩ (.slice A5 x2.length c5)) from below_set (below_set HB5.out HG7.out) HG7.out)
              have HX8 := Aside0.mk (blk_put (cs' := #[.int .i64 x1, .slice A5 x2.length c5]) (blk_put (cs' := #[.int .i64 x1, .slice none 0 0]) HX7.out 0 (.int .i64 x1) rfl) 1 (.slice A5 x2.length c5) rfl)
              have HR6 := Aside0.mk (RR.far24 (RR.far24 HR5.out HX7.out 0 (.int .i64 x1)) (blk_put (cs' := #[.int .i64 x1, .slice none 0 0]) HX7.out 0 (.int .i64 x1) rfl) 1 (.slice A5 x2.length c5))
              have n0 := Aside0.mk (HS.out.on HBE.out)
              have HNE := Aside0.mk (show w2.heap.size ≠ g7 from Nat.ne_of_lt (Nat.lt_of_lt_of_le (blk_lt HS.out.bx) HG7.out))
              have HEE0 := pw_cell_below HBE.out HE0.out
              have HEE1 := pw_cell_below HBE.out HE1.out
              clear HS hs0 hs1 hfs0 hfs1 HX7 HR5 HB5
              have HS := n0
              clear n0
              refine hK.out _ _ ⟨HS.out.x0, HS.out.x1, HEE0, HEE1⟩ (fun hHeld => ?_)
              clear hK K hHeld HEE0 HEE1
              refine pure_ (i := 17) (N := some 8) (v := ?_) (a' := ?_) #[true, true, true, true, true, true, true, true, true, true, true, true, true, true, true, true, true, true] rfl rfl (any_of HT_.out (by kernel_rfl)) (fun _ _ _ h => h) (Or.inl ⟨by rfl, ?_⟩) ?_ ?_
              rotate_left
              · intro w'
                go_simp
                with_reducible rfl
              rotate_left
              · simp only [Act.put, List.setIfInBounds_toArray, List.set_cons_zero, List.set_cons_succ, i64_w, i32_w]
                rfl
              refine done_ (done_of HT_.out (by kernel_rfl)) ?_
              generalize ((w6.setCell ⟨g7, 0, none⟩ (.int .i64 x1)).setCell ⟨g7, 1, none⟩ (.slice A5 x2.length c5)) = w7 at HS HX8 HR6 HBE ⊢
              have hne1 := HNE.out
              have hne2 := fun h => HNE.out (Eq.symm h)
              have hk0 : w7.cell? ⟨g7, 0, none⟩ = some (.int .i64 x1) := blk_cell HX8.out 0
              have hk1 : w7.cell? ⟨g7, 1, none⟩ = some (.slice A5 x2.length c5) := blk_cell HX8.out 1
              have hs0 := HS.out.x0
              have hs1 := HS.out.x1
              have hf0 := HS.out.f0
              have hf1 := HS.out.f1
              by_cases e : x3 = 0
              · subst e
                have hok := Pure.change_ok HQ.out.1 (show (changeS x q y.f0 y.f1).2.2 = 0 by rw [HCS.out])
                rw [HCS.out] at hok
                have HOK2 := Aside0.mk hok
                clear hok
                go_wp2
                go_roundg (l1.length - (i + 1))
                case measure => omega
                case rel =>
                  obtain ⟨e1, e2, e3⟩ := HOK2.out
                  have e1 : x2 = newL q y.f0 y.f1 := e1
                  obtain ⟨_, hq1, hq2⟩ := HQ.out
                  refine ⟨i + 1, x1, A5, c5, x2, by omega, by omega, by go_num, ⟨HS.out.put x1 A5 c5 x2 (.inr HR6.out)⟩, ⟨by rw [e1]; exact e2, ?_, ?_⟩⟩ <;> (rcases e3 with ⟨_, e3⟩ | ⟨_, e3⟩ <;> omega)
              · go_wp2
                go_roundg (l1.length - (i + 1))
                case measure => omega
                case rel => exact ⟨i + 1, x, Ax, cx, q, by omega, by omega, by go_num, HS, ⟨HQ.out.1, HQ.out.2.1, by have := HQ.out.2.2; omega⟩⟩
        · have hltz : ¬ (i : Int) < (l1.length : Int) := by omega
          obtain rfl : i = l1.length := by omega
          have hr2 := (Pure.right_zero x q).1 HQ.out.1
          obtain ⟨p, hp⟩ : ∃ p, p = minusS q l0_1 := ⟨_, rfl⟩
          obtain ⟨m, hm⟩ : ∃ m, m = minusS l0_1 q := ⟨_, rfl⟩
          have HP := Aside0.mk hp
          have HM := Aside0.mk hm
          have HLN := Aside0.mk (show l0_1.length ≤ 1000000 ∧ q.length ≤ 1000000 from ⟨by omega, by omega⟩)
          clear hp hm hr2
          go_wp2
          have n0 := Aside0.mk (HS.out.on (below_drew (Below.refl _ _)))
          clear HS
          have HS := n0
          clear n0
          refine start_ (n := 10) (S := fun w' => w'.cell? ⟨w.heap.size, 0, none⟩ = some (.int .i64 a0_0) ∧ w'.cell? ⟨w.heap.size, 1, none⟩ = some (.slice A0_1 l0_1.length c0_1) ∧ w'.cell? ⟨w2.heap.size, 0, none⟩ = some (.int .i64 x) ∧ w'.cell? ⟨w2.heap.size, 1, none⟩ = some (.slice Ax q.length cx)) (ds := []) #[false, false, false, false, false, false, false, false, false, false] (by kernel_rfl) rfl rfl ⟨HS.out.r0, HS.out.r1, HS.out.x0, HS.out.x1⟩ (fun hHeld => ?_); refine with_tabW st_tab14 st_bits14 (fun HT_ HW_ => ?_)
          generalize wr.drew = w8 at HS hHeld ⊢
          have HB5 := Aside0.mk (Below.refl w8.heap.size w8)
          refine take_ (i := 0) (N := some 64) (v := ?_) (a' := ?_) #[true, false, false, false, false, false, false, false, false, false] rfl rfl (take_ofW HT_.out HW_.out (by kernel_rfl)) (fun _ _ _ h => h) (Or.inl ⟨by rfl, ?_⟩) hHeld ?_ ?_
          rotate_left
          · rintro w' ⟨s0, s1, s2, s3⟩
            go_simp
            with_reducible rfl
          rotate_left
          · simp only [Act.put, List.setIfInBounds_toArray, List.set_cons_zero, List.set_cons_succ, i64_w, i32_w]
            rfl
          refine take_ (i := 1) (N := some 65) (v := ?_) (a' := ?_) #[true, true, false, false, false, false, false, false, false, false] rfl rfl (take_ofW HT_.out HW_.out (by kernel_rfl)) (fun _ _ _ h => h) (Or.inl ⟨by rfl, ?_⟩) hHeld ?_ ?_
          rotate_left
          · rintro w' ⟨s0, s1, s2, s3⟩
            go_simp
            with_reducible rfl
          rotate_left
          · simp only [Act.put, List.setIfInBounds_toArray, List.set_cons_zero, List.set_cons_succ, i64_w, i32_w]
            rfl
          refine take_ (i := 3) (N := some 67) (v := ?_) (a' := ?_) #[true, true, false, true, false, false, false, false, false, false] rfl rfl (take_ofW HT_.out HW_.out (by kernel_rfl)) (fun _ _ _ h => h) (Or.inl ⟨by rfl, ?_⟩) hHeld ?_ ?_
          rotate_left
          · rintro w' ⟨s0, s1, s2, s3⟩
            go_simp
            with_reducible rfl
          rotate_left
          · simp only [Act.put, List.setIfInBounds_toArray, List.set_cons_zero, List.set_cons_succ, i64_w, i32_w]
            rfl
          refine take_ (i := 4) (N := some 68) (v := ?_) (a' := ?_) #[true, true, false, true, true, false, false, false, false, false] rfl rfl (take_ofW HT_.out HW_.out (by kernel_rfl)) (fun _ _ _ h => h) (Or.inl ⟨by rfl, ?_⟩) hHeld ?_ ?_
          rotate_left
          · rintro w' ⟨s0, s1, s2, s3⟩
            go_simp
            with_reducible rfl
          rotate_left
          · simp only [Act.put, List.setIfInBounds_toArray, List.set_cons_zero, List.set_cons_succ, i64_w, i32_w]
            rfl
          refine join_ (σ := Option Addr × Nat × Option Addr × Nat × Option Addr × Nat × Option Addr × Nat × Nat × Nat) 2 #[true, true, true, true, true, true, true, true, false, false] (fun s_ => [(66, .agg #[.int .i64 a0_0, .int .i64 x, .slice s_.1 p.length s_.2.1, .slice s_.2.2.1 m.length s_.2.2.2.1]), (69, .agg #[.int .i64 x, .int .i64 a0_0, .slice s_.2.2.2.2.1 m.length s_.2.2.2.2.2.1, .slice s_.2.2.2.2.2.2.1 p.length s_.2.2.2.2.2.2.2.1]), (9, .pointer (some ⟨s_.2.2.2.2.2.2.2.2.1, 0, none⟩)), (10, .pointer (some ⟨s_.2.2.2.2.2.2.2.2.2, 0, none⟩))]) (fun s_ w' => Below w8.heap.size w8 w' ∧ w8.heap.size ≤ s_.2.2.2.2.2.2.2.2.1 ∧ w8.heap.size ≤ s_.2.2.2.2.2.2.2.2.2 ∧ s_.2.2.2.2.2.2.2.2.1 ≠ s_.2.2.2.2.2.2.2.2.2 ∧ RR w' (.slice s_.1 p.length s_.2.1) p ∧ RR w' (.slice s_.2.2.1 m.length s_.2.2.2.1) m ∧ RR w' (.slice s_.2.2.2.2.1 m.length s_.2.2.2.2.2.1) m ∧ RR w' (.slice s_.2.2.2.2.2.2.1 p.length s_.2.2.2.2.2.2.2.1) p ∧ w'.heap[s_.2.2.2.2.2.2.2.2.1]? = some (.cells #[.int .i64 0, .int .i64 0, .slice none 0 0, .slice none 0 0] 36 (0, 0)) ∧ w'.heap[s_.2.2.2.2.2.2.2.2.2]? = some (.cells #[.int .i64 0, .int .i64 0, .slice none 0 0, .slice none 0 0] 36 (0, 0))) ?_ ?_
          rotate_left
          · intro hCont
            refine three_ (i := 2) (j := 6) (k := 7) (Ni := some 66) (Nj := some 9) (Nk := some 10) #[true, true, true, true, true, false, false, false, false, false] #[true, true, false, true, true, false, true, false, false, false] #[true, true, false, true, true, false, false, true, false, false] rfl rfl rfl rfl rfl rfl (three_of HT_.out (by kernel_rfl)) (by decide) (by decide) (by decide) (fun K hK => ?_) (fun K hK => ?_) (fun K hK => ?_)
            · refine goes_ Try.func22 (by kernel_rfl) rfl #[.agg #[.int .i64 a0_0, .slice A0_1 l0_1.length c0_1], .agg #[.int .i64 x, .slice Ax q.length cx]] (by rfl) rfl rfl (by (try simp only [List.map_toArray, List.map_cons, List.map_nil]); first | done | rfl) ?_
              refine (s_diff a0_0 l0_1 x q p m HP.out HM.out HLN.out.1 HLN.out.2 _ _ _ _ _ (HI.out.below (HS.out.on HB5.out).below) ((HS.out.on HB5.out).xl.ints (HS.out.on HB5.out).below)).mono ?_
              rintro e w101 ⟨A3, c3, A4, c4, rfl, h3, h4, hb⟩
              refine ⟨_, rfl, ?_⟩
              have V1 := Aside0.mk h3
              have V2 := Aside0.mk h4
              replace HB5 := Aside0.mk (HB5.out.trans (hb.mono HB5.out.size))
              refine hK.out _ _ ⟨(HS.out.on HB5.out).r0, (HS.out.on HB5.out).r1, (HS.out.on HB5.out).x0, (HS.out.on HB5.out).x1⟩ (fun hHeld => ?_)
              clear hK K
              refine norm_ (a' := ?_) ?_ ?_
              rotate_left
              · show Act.put _ (some 66) _ = _
                simp only [Act.put, List.setIfInBounds_toArray, List.set_cons_zero, List.set_cons_succ, i64_w, i32_w]
                rfl
              refine three_ (i := 5) (j := 6) (k := 7) (Ni := some 69) (Nj := some 9) (Nk := some 10) #[true, true, true, true, true, true, false, false, false, false] #[true, true, true, true, true, false, true, false, false, false] #[true, true, true, true, true, false, false, true, false, false] rfl rfl rfl rfl rfl rfl (three_of HT_.out (by kernel_rfl)) (by decide) (by decide) (by decide) (fun K hK => ?_) (fun K hK => ?_) (fun K hK => ?_)
              · refine goes_ Try.func22 (by kernel_rfl) rfl #[.agg #[.int .i64 x, .slice Ax q.length cx], .agg #[.int .i64 a0_0, .slice A0_1 l0_1.length c0_1]] (by rfl) rfl rfl (by (try simp only [List.map_toArray, List.map_cons, List.map_nil]); first | done | rfl) ?_
                refine (s_diff x q a0_0 l0_1 m p HM.out HP.out HLN.out.2 HLN.out.1 _ _ _ _ _ ((HS.out.on HB5.out).xl.ints (HS.out.on HB5.out).below) (HI.out.below (HS.out.on HB5.out).below)).mono ?_
                rintro e w102 ⟨A5, c5, A6, c6, rfl, h3, h4, hb⟩
                refine ⟨_, rfl, ?_⟩
                have V3 := Aside0.mk h3
                have V4 := Aside0.mk h4
                replace HB5 := Aside0.mk (HB5.out.trans (hb.mono HB5.out.size))
                replace V1 := Aside0.mk (PAll.RR.below V1.out hb)
                replace V2 := Aside0.mk (PAll.RR.below V2.out hb)
                refine hK.out _ _ ⟨(HS.out.on HB5.out).r0, (HS.out.on HB5.out).r1, (HS.out.on HB5.out).x0, (HS.out.on HB5.out).x1⟩ (fun hHeld => ?_)
                clear hK K
                refine norm_ (a' := ?_) ?_ ?_
                rotate_left
                · show Act.put _ (some 69) _ = _
                  simp only [Act.put, List.setIfInBounds_toArray, List.set_cons_zero, List.set_cons_succ, i64_w, i32_w]
                  rfl
                refine two_ (i := 6) (j := 7) (Ni := some 9) (Nj := some 10) #[true, true, true, true, true, true, true, false, false, false] #[true, true, true, true, true, true, false, true, false, false] rfl rfl rfl rfl (two_of HT_.out (by kernel_rfl)) (by decide) (by decide) (fun K hK => ?_) (fun K hK => ?_)
                · refine box_step ?hg (N := 9) ?hd (cs := #[.int .i64 0, .int .i64 0, .slice none 0 0, .slice none 0 0]) (t := 36) ?hr ?_; (case hd => rfl); (case hg => rfl); (case hr => first | (go_simp; done) | (go_simp; rfl))
                  intro g9 hg w103 hbox hb
                  have X9 := Aside0.mk hbox
                  have G9 := Aside0.mk (show w8.heap.size ≤ g9 by rw [hg]; exact HB5.out.size)
                  replace HB5 := Aside0.mk (HB5.out.trans (hb.mono HB5.out.size))
                  replace V1 := Aside0.mk (PAll.RR.below V1.out hb)
                  replace V2 := Aside0.mk (PAll.RR.below V2.out hb)
                  replace V3 := Aside0.mk (PAll.RR.below V3.out hb)
                  replace V4 := Aside0.mk (PAll.RR.below V4.out hb)
                  refine hK.out _ _ ⟨(HS.out.on HB5.out).r0, (HS.out.on HB5.out).r1, (HS.out.on HB5.out).x0, (HS.out.on HB5.out).x1⟩ (fun hHeld => ?_)
                  clear hK K
                  refine norm_ (a' := ?_) ?_ ?_
                  rotate_left
                  · show Act.put _ (some 9) _ = _
                    simp only [Act.put, List.setIfInBounds_toArray, List.set_cons_zero, List.set_cons_succ, i64_w, i32_w]
                    rfl
                  refine one_ (i := 7) (N := some 10) #[true, true, true, true, true, true, true, true, false, false] rfl rfl (one_of HT_.out (by kernel_rfl)) (by decide) (fun K hK => ?_)
                  refine box_step ?hg (N := 10) ?hd (cs := #[.int .i64 0, .int .i64 0, .slice none 0 0, .slice none 0 0]) (t := 36) ?hr ?_; (case hd => rfl); (case hg => rfl); (case hr => first | (go_simp; done) | (go_simp; rfl))
                  intro g10 hg w104 hbox hb
                  have X10 := Aside0.mk hbox
                  have G10 := Aside0.mk (show w8.heap.size ≤ g10 by rw [hg]; exact HB5.out.size)
                  have HNE := Aside0.mk (show g9 ≠ g10 by rw [hg]; exact Nat.ne_of_lt (blk_lt X9.out))
                  replace HB5 := Aside0.mk (HB5.out.trans (hb.mono HB5.out.size))
                  replace V1 := Aside0.mk (PAll.RR.below V1.out hb)
                  replace V2 := Aside0.mk (PAll.RR.below V2.out hb)
                  replace V3 := Aside0.mk (PAll.RR.below V3.out hb)
                  replace V4 := Aside0.mk (PAll.RR.below V4.out hb)
                  replace X9 := Aside0.mk (blk_below X9.out hb)
                  refine hK.out _ _ ⟨(HS.out.on HB5.out).r0, (HS.out.on HB5.out).r1, (HS.out.on HB5.out).x0, (HS.out.on HB5.out).x1⟩ (fun hHeld => ?_)
                  clear hK K
                  refine norm_ (a' := ?_) ?_ ?_
                  rotate_left
                  · show Act.put _ (some 10) _ = _
                    simp only [Act.put, List.setIfInBounds_toArray, List.set_cons_zero, List.set_cons_succ, i64_w, i32_w]
                    rfl
                  exact norm_ (by simp only [putAll, Act.put, List.setIfInBounds_toArray, List.set_cons_zero, List.set_cons_succ]) (hCont (A3, c3, A4, c4, A5, c5, A6, c6, g9, g10) _ ⟨HB5.out, G9.out, G10.out, HNE.out, V1.out, V2.out, V3.out, V4.out, X9.out, X10.out⟩)
                · refine box_step ?hg (N := 10) ?hd (cs := #[.int .i64 0, .int .i64 0, .slice none 0 0, .slice none 0 0]) (t := 36) ?hr ?_; (case hd => rfl); (case hg => rfl); (case hr => first | (go_simp; done) | (go_simp; rfl))
                  intro g10 hg w105 hbox hb
                  have X10 := Aside0.mk hbox
                  have G10 := Aside0.mk (show w8.heap.size ≤ g10 by rw [hg]; exact HB5.out.size)
                  replace HB5 := Aside0.mk (HB5.out.trans (hb.mono HB5.out.size))
                  replace V1 := Aside0.mk (PAll.RR.below V1.out hb)
                  replace V2 := Aside0.mk (PAll.RR.below V2.out hb)
                  replace V3 := Aside0.mk (PAll.RR.below V3.out hb)
                  replace V4 := Aside0.mk (PAll.RR.below V4.out hb)
                  refine hK.out _ _ ⟨(HS.out.on HB5.out).r0, (HS.out.on HB5.out).r1, (HS.out.on HB5.out).x0, (HS.out.on HB5.out).x1⟩ (fun hHeld => ?_)
                  clear hK K
                  refine norm_ (a' := ?_) ?_ ?_
                  rotate_left
                  · show Act.put _ (some 10) _ = _
                    simp only [Act.put, List.setIfInBounds_toArray, List.set_cons_zero, List.set_cons_succ, i64_w, i32_w]
                    rfl
                  refine one_ (i := 6) (N := some 9) #[true, true, true, true, true, true, true, true, false, false] rfl rfl (one_of HT_.out (by kernel_rfl)) (by decide) (fun K hK => ?_)
                  refine box_step ?hg (N := 9) ?hd (cs := #[.int .i64 0, .int .i64 0, .slice none 0 0, .slice none 0 0]) (t := 36) ?hr ?_; (case hd => rfl); (case hg => rfl); (case hr => first | (go_simp; done) | (go_simp; rfl))
                  intro g9 hg w106 hbox hb
                  have X9 := Aside0.mk hbox
                  have G9 := Aside0.mk (show w8.heap.size ≤ g9 by rw [hg]; exact HB5.out.size)
                  have HNE := Aside0.mk (show g9 ≠ g10 by rw [hg]; exact Nat.ne_of_gt (blk_lt X10.out))
                  replace HB5 := Aside0.mk (HB5.out.trans (hb.mono HB5.out.size))
                  replace V1 := Aside0.mk (PAll.RR.below V1.out hb)
                  replace V2 := Aside0.mk (PAll.RR.below V2.out hb)
                  replace V3 := Aside0.mk (PAll.RR.below V3.out hb)
                  replace V4 := Aside0.mk (PAll.RR.below V4.out hb)
                  replace X10 := Aside0.mk (blk_below X10.out hb)
                  refine hK.out _ _ ⟨(HS.out.on HB5.out).r0, (HS.out.on HB5.out).r1, (HS.out.on HB5.out).x0, (HS.out.on HB5.out).x1⟩ (fun hHeld => ?_)
                  clear hK K
                  refine norm_ (a' := ?_) ?_ ?_
                  rotate_left
                  · show Act.put _ (some 9) _ = _
                    simp only [Act.put, List.setIfInBounds_toArray, List.set_cons_zero, List.set_cons_succ, i64_w, i32_w]
                    rfl
                  exact norm_ (by simp only [putAll, Act.put, List.setIfInBounds_toArray, List.set_cons_zero, List.set_cons_succ]) (hCont (A3, c3, A4, c4, A5, c5, A6, c6, g9, g10) _ ⟨HB5.out, G9.out, G10.out, HNE.out, V1.out, V2.out, V3.out, V4.out, X9.out, X10.out⟩)
              · refine box_step ?hg (N := 9) ?hd (cs := #[.int .i64 0, .int .i64 0, .slice none 0 0, .slice none 0 0]) (t := 36) ?hr ?_; (case hd => rfl); (case hg => rfl); (case hr => first | (go_simp; done) | (go_simp; rfl))
                intro g9 hg w107 hbox hb
                have X9 := Aside0.mk hbox
                have G9 := Aside0.mk (show w8.heap.size ≤ g9 by rw [hg]; exact HB5.out.size)
                replace HB5 := Aside0.mk (HB5.out.trans (hb.mono HB5.out.size))
                replace V1 := Aside0.mk (PAll.RR.below V1.out hb)
                replace V2 := Aside0.mk (PAll.RR.below V2.out hb)
                refine hK.out _ _ ⟨(HS.out.on HB5.out).r0, (HS.out.on HB5.out).r1, (HS.out.on HB5.out).x0, (HS.out.on HB5.out).x1⟩ (fun hHeld => ?_)
                clear hK K
                refine norm_ (a' := ?_) ?_ ?_
                rotate_left
                · show Act.put _ (some 9) _ = _
                  simp only [Act.put, List.setIfInBounds_toArray, List.set_cons_zero, List.set_cons_succ, i64_w, i32_w]
                  rfl
                refine two_ (i := 5) (j := 7) (Ni := some 69) (Nj := some 10) #[true, true, true, true, true, true, true, false, false, false] #[true, true, true, true, true, false, true, true, false, false] rfl rfl rfl rfl (two_of HT_.out (by kernel_rfl)) (by decide) (by decide) (fun K hK => ?_) (fun K hK => ?_)
                · refine goes_ Try.func22 (by kernel_rfl) rfl #[.agg #[.int .i64 x, .slice Ax q.length cx], .agg #[.int .i64 a0_0, .slice A0_1 l0_1.length c0_1]] (by rfl) rfl rfl (by (try simp only [List.map_toArray, List.map_cons, List.map_nil]); first | done | rfl) ?_
                  refine (s_diff x q a0_0 l0_1 m p HM.out HP.out HLN.out.2 HLN.out.1 _ _ _ _ _ ((HS.out.on HB5.out).xl.ints (HS.out.on HB5.out).below) (HI.out.below (HS.out.on HB5.out).below)).mono ?_
                  rintro e w108 ⟨A5, c5, A6, c6, rfl, h3, h4, hb⟩
                  refine ⟨_, rfl, ?_⟩
                  have V3 := Aside0.mk h3
                  have V4 := Aside0.mk h4
                  replace HB5 := Aside0.mk (HB5.out.trans (hb.mono HB5.out.size))
                  replace V1 := Aside0.mk (PAll.RR.below V1.out hb)
                  replace V2 := Aside0.mk (PAll.RR.below V2.out hb)
                  replace X9 := Aside0.mk (blk_below X9.out hb)
                  refine hK.out _ _ ⟨(HS.out.on HB5.out).r0, (HS.out.on HB5.out).r1, (HS.out.on HB5.out).x0, (HS.out.on HB5.out).x1⟩ (fun hHeld => ?_)
                  clear hK K
                  refine norm_ (a' := ?_) ?_ ?_
                  rotate_left
                  · show Act.put _ (some 69) _ = _
                    simp only [Act.put, List.setIfInBounds_toArray, List.set_cons_zero, List.set_cons_succ, i64_w, i32_w]
                    rfl
                  refine one_ (i := 7) (N := some 10) #[true, true, true, true, true, true, true, true, false, false] rfl rfl (one_of HT_.out (by kernel_rfl)) (by decide) (fun K hK => ?_)
                  refine box_step ?hg (N := 10) ?hd (cs := #[.int .i64 0, .int .i64 0, .slice none 0 0, .slice none 0 0]) (t := 36) ?hr ?_; (case hd => rfl); (case hg => rfl); (case hr => first | (go_simp; done) | (go_simp; rfl))
                  intro g10 hg w109 hbox hb
                  have X10 := Aside0.mk hbox
                  have G10 := Aside0.mk (show w8.heap.size ≤ g10 by rw [hg]; exact HB5.out.size)
                  have HNE := Aside0.mk (show g9 ≠ g10 by rw [hg]; exact Nat.ne_of_lt (blk_lt X9.out))
                  replace HB5 := Aside0.mk (HB5.out.trans (hb.mono HB5.out.size))
                  replace V1 := Aside0.mk (PAll.RR.below V1.out hb)
                  replace V2 := Aside0.mk (PAll.RR.below V2.out hb)
                  replace V3 := Aside0.mk (PAll.RR.below V3.out hb)
                  replace V4 := Aside0.mk (PAll.RR.below V4.out hb)
                  replace X9 := Aside0.mk (blk_below X9.out hb)
                  refine hK.out _ _ ⟨(HS.out.on HB5.out).r0, (HS.out.on HB5.out).r1, (HS.out.on HB5.out).x0, (HS.out.on HB5.out).x1⟩ (fun hHeld => ?_)
                  clear hK K
                  refine norm_ (a' := ?_) ?_ ?_
                  rotate_left
                  · show Act.put _ (some 10) _ = _
                    simp only [Act.put, List.setIfInBounds_toArray, List.set_cons_zero, List.set_cons_succ, i64_w, i32_w]
                    rfl
                  exact norm_ (by simp only [putAll, Act.put, List.setIfInBounds_toArray, List.set_cons_zero, List.set_cons_succ]) (hCont (A3, c3, A4, c4, A5, c5, A6, c6, g9, g10) _ ⟨HB5.out, G9.out, G10.out, HNE.out, V1.out, V2.out, V3.out, V4.out, X9.out, X10.out⟩)
                · refine box_step ?hg (N := 10) ?hd (cs := #[.int .i64 0, .int .i64 0, .slice none 0 0, .slice none 0 0]) (t := 36) ?hr ?_; (case hd => rfl); (case hg => rfl); (case hr => first | (go_simp; done) | (go_simp; rfl))
                  intro g10 hg w110 hbox hb
                  have X10 := Aside0.mk hbox
                  have G10 := Aside0.mk (show w8.heap.size ≤ g10 by rw [hg]; exact HB5.out.size)
                  have HNE := Aside0.mk (show g9 ≠ g10 by rw [hg]; exact Nat.ne_of_lt (blk_lt X9.out))
                  replace HB5 := Aside0.mk (HB5.out.trans (hb.mono HB5.out.size))
                  replace V1 := Aside0.mk (PAll.RR.below V1.out hb)
                  replace V2 := Aside0.mk (PAll.RR.below V2.out hb)
                  replace X9 := Aside0.mk (blk_below X9.out hb)
                  refine hK.out _ _ ⟨(HS.out.on HB5.out).r0, (HS.out.on HB5.out).r1, (HS.out.on HB5.out).x0, (HS.out.on HB5.out).x1⟩ (fun hHeld => ?_)
                  clear hK K
                  refine norm_ (a' := ?_) ?_ ?_
                  rotate_left
                  · show Act.put _ (some 10) _ = _
                    simp only [Act.put, List.setIfInBounds_toArray, List.set_cons_zero, List.set_cons_succ, i64_w, i32_w]
                    rfl
                  refine one_ (i := 5) (N := some 69) #[true, true, true, true, true, true, true, true, false, false] rfl rfl (one_of HT_.out (by kernel_rfl)) (by decide) (fun K hK => ?_)
                  refine goes_ Try.func22 (by kernel_rfl) rfl #[.agg #[.int .i64 x, .slice Ax q.length cx], .agg #[.int .i64 a0_0, .slice A0_1 l0_1.length c0_1]] (by rfl) rfl rfl (by (try simp only [List.map_toArray, List.map_cons, List.map_nil]); first | done | rfl) ?_
                  refine (s_diff x q a0_0 l0_1 m p HM.out HP.out HLN.out.2 HLN.out.1 _ _ _ _ _ ((HS.out.on HB5.out).xl.ints (HS.out.on HB5.out).below) (HI.out.below (HS.out.on HB5.out).below)).mono ?_
                  rintro e w111 ⟨A5, c5, A6, c6, rfl, h3, h4, hb⟩
                  refine ⟨_, rfl, ?_⟩
                  have V3 := Aside0.mk h3
                  have V4 := Aside0.mk h4
                  replace HB5 := Aside0.mk (HB5.out.trans (hb.mono HB5.out.size))
                  replace V1 := Aside0.mk (PAll.RR.below V1.out hb)
                  replace V2 := Aside0.mk (PAll.RR.below V2.out hb)
                  replace X10 := Aside0.mk (blk_below X10.out hb)
                  replace X9 := Aside0.mk (blk_below X9.out hb)
                  refine hK.out _ _ ⟨(HS.out.on HB5.out).r0, (HS.out.on HB5.out).r1, (HS.out.on HB5.out).x0, (HS.out.on HB5.out).x1⟩ (fun hHeld => ?_)
                  clear hK K
                  refine norm_ (a' := ?_) ?_ ?_
                  rotate_left
                  · show Act.put _ (some 69) _ = _
                    simp only [Act.put, List.setIfInBounds_toArray, List.set_cons_zero, List.set_cons_succ, i64_w, i32_w]
                    rfl
                  exact norm_ (by simp only [putAll, Act.put, List.setIfInBounds_toArray, List.set_cons_zero, List.set_cons_succ]) (hCont (A3, c3, A4, c4, A5, c5, A6, c6, g9, g10) _ ⟨HB5.out, G9.out, G10.out, HNE.out, V1.out, V2.out, V3.out, V4.out, X9.out, X10.out⟩)
              · refine box_step ?hg (N := 10) ?hd (cs := #[.int .i64 0, .int .i64 0, .slice none 0 0, .slice none 0 0]) (t := 36) ?hr ?_; (case hd => rfl); (case hg => rfl); (case hr => first | (go_simp; done) | (go_simp; rfl))
                intro g10 hg w112 hbox hb
                have X10 := Aside0.mk hbox
                have G10 := Aside0.mk (show w8.heap.size ≤ g10 by rw [hg]; exact HB5.out.size)
                replace HB5 := Aside0.mk (HB5.out.trans (hb.mono HB5.out.size))
                replace V1 := Aside0.mk (PAll.RR.below V1.out hb)
                replace V2 := Aside0.mk (PAll.RR.below V2.out hb)
                refine hK.out _ _ ⟨(HS.out.on HB5.out).r0, (HS.out.on HB5.out).r1, (HS.out.on HB5.out).x0, (HS.out.on HB5.out).x1⟩ (fun hHeld => ?_)
                clear hK K
                refine norm_ (a' := ?_) ?_ ?_
                rotate_left
                · show Act.put _ (some 10) _ = _
                  simp only [Act.put, List.setIfInBounds_toArray, List.set_cons_zero, List.set_cons_succ, i64_w, i32_w]
                  rfl
                refine two_ (i := 5) (j := 6) (Ni := some 69) (Nj := some 9) #[true, true, true, true, true, true, false, true, false, false] #[true, true, true, true, true, false, true, true, false, false] rfl rfl rfl rfl (two_of HT_.out (by kernel_rfl)) (by decide) (by decide) (fun K hK => ?_) (fun K hK => ?_)
                · refine goes_ Try.func22 (by kernel_rfl) rfl #[.agg #[.int .i64 x, .slice Ax q.length cx], .agg #[.int .i64 a0_0, .slice A0_1 l0_1.length c0_1]] (by rfl) rfl rfl (by (try simp only [List.map_toArray, List.map_cons, List.map_nil]); first | done | rfl) ?_
                  refine (s_diff x q a0_0 l0_1 m p HM.out HP.out HLN.out.2 HLN.out.1 _ _ _ _ _ ((HS.out.on HB5.out).xl.ints (HS.out.on HB5.out).below) (HI.out.below (HS.out.on HB5.out).below)).mono ?_
                  rintro e w113 ⟨A5, c5, A6, c6, rfl, h3, h4, hb⟩
                  refine ⟨_, rfl, ?_⟩
                  have V3 := Aside0.mk h3
                  have V4 := Aside0.mk h4
                  replace HB5 := Aside0.mk (HB5.out.trans (hb.mono HB5.out.size))
                  replace V1 := Aside0.mk (PAll.RR.below V1.out hb)
                  replace V2 := Aside0.mk (PAll.RR.below V2.out hb)
                  replace X10 := Aside0.mk (blk_below X10.out hb)
                  refine hK.out _ _ ⟨(HS.out.on HB5.out).r0, (HS.out.on HB5.out).r1, (HS.out.on HB5.out).x0, (HS.out.on HB5.out).x1⟩ (fun hHeld => ?_)
                  clear hK K
                  refine norm_ (a' := ?_) ?_ ?_
                  rotate_left
                  · show Act.put _ (some 69) _ = _
                    simp only [Act.put, List.setIfInBounds_toArray, List.set_cons_zero, List.set_cons_succ, i64_w, i32_w]
                    rfl
                  refine one_ (i := 6) (N := some 9) #[true, true, true, true, true, true, true, true, false, false] rfl rfl (one_of HT_.out (by kernel_rfl)) (by decide) (fun K hK => ?_)
                  refine box_step ?hg (N := 9) ?hd (cs := #[.int .i64 0, .int .i64 0, .slice none 0 0, .slice none 0 0]) (t := 36) ?hr ?_; (case hd => rfl); (case hg => rfl); (case hr => first | (go_simp; done) | (go_simp; rfl))
                  intro g9 hg w114 hbox hb
                  have X9 := Aside0.mk hbox
                  have G9 := Aside0.mk (show w8.heap.size ≤ g9 by rw [hg]; exact HB5.out.size)
                  have HNE := Aside0.mk (show g9 ≠ g10 by rw [hg]; exact Nat.ne_of_gt (blk_lt X10.out))
                  replace HB5 := Aside0.mk (HB5.out.trans (hb.mono HB5.out.size))
                  replace V1 := Aside0.mk (PAll.RR.below V1.out hb)
                  replace V2 := Aside0.mk (PAll.RR.below V2.out hb)
                  replace V3 := Aside0.mk (PAll.RR.below V3.out hb)
                  replace V4 := Aside0.mk (PAll.RR.below V4.out hb)
                  replace X10 := Aside0.mk (blk_below X10.out hb)
                  refine hK.out _ _ ⟨(HS.out.on HB5.out).r0, (HS.out.on HB5.out).r1, (HS.out.on HB5.out).x0, (HS.out.on HB5.out).x1⟩ (fun hHeld => ?_)
                  clear hK K
                  refine norm_ (a' := ?_) ?_ ?_
                  rotate_left
                  · show Act.put _ (some 9) _ = _
                    simp only [Act.put, List.setIfInBounds_toArray, List.set_cons_zero, List.set_cons_succ, i64_w, i32_w]
                    rfl
                  exact norm_ (by simp only [putAll, Act.put, List.setIfInBounds_toArray, List.set_cons_zero, List.set_cons_succ]) (hCont (A3, c3, A4, c4, A5, c5, A6, c6, g9, g10) _ ⟨HB5.out, G9.out, G10.out, HNE.out, V1.out, V2.out, V3.out, V4.out, X9.out, X10.out⟩)
                · refine box_step ?hg (N := 9) ?hd (cs := #[.int .i64 0, .int .i64 0, .slice none 0 0, .slice none 0 0]) (t := 36) ?hr ?_; (case hd => rfl); (case hg => rfl); (case hr => first | (go_simp; done) | (go_simp; rfl))
                  intro g9 hg w115 hbox hb
                  have X9 := Aside0.mk hbox
                  have G9 := Aside0.mk (show w8.heap.size ≤ g9 by rw [hg]; exact HB5.out.size)
                  have HNE := Aside0.mk (show g9 ≠ g10 by rw [hg]; exact Nat.ne_of_gt (blk_lt X10.out))
                  replace HB5 := Aside0.mk (HB5.out.trans (hb.mono HB5.out.size))
                  replace V1 := Aside0.mk (PAll.RR.below V1.out hb)
                  replace V2 := Aside0.mk (PAll.RR.below V2.out hb)
                  replace X10 := Aside0.mk (blk_below X10.out hb)
                  refine hK.out _ _ ⟨(HS.out.on HB5.out).r0, (HS.out.on HB5.out).r1, (HS.out.on HB5.out).x0, (HS.out.on HB5.out).x1⟩ (fun hHeld => ?_)
                  clear hK K
                  refine norm_ (a' := ?_) ?_ ?_
                  rotate_left
                  · show Act.put _ (some 9) _ = _
                    simp only [Act.put, List.setIfInBounds_toArray, List.set_cons_zero, List.set_cons_succ, i64_w, i32_w]
                    rfl
                  refine one_ (i := 5) (N := some 69) #[true, true, true, true, true, true, true, true, false, false] rfl rfl (one_of HT_.out (by kernel_rfl)) (by decide) (fun K hK => ?_)
                  refine goes_ Try.func22 (by kernel_rfl) rfl #[.agg #[.int .i64 x, .slice Ax q.length cx], .agg #[.int .i64 a0_0, .slice A0_1 l0_1.length c0_1]] (by rfl) rfl rfl (by (try simp only [List.map_toArray, List.map_cons, List.map_nil]); first | done | rfl) ?_
                  refine (s_diff x q a0_0 l0_1 m p HM.out HP.out HLN.out.2 HLN.out.1 _ _ _ _ _ ((HS.out.on HB5.out).xl.ints (HS.out.on HB5.out).below) (HI.out.below (HS.out.on HB5.out).below)).mono ?_
                  rintro e w116 ⟨A5, c5, A6, c6, rfl, h3, h4, hb⟩
                  refine ⟨_, rfl, ?_⟩
                  have V3 := Aside0.mk h3
                  have V4 := Aside0.mk h4
                  replace HB5 := Aside0.mk (HB5.out.trans (hb.mono HB5.out.size))
                  replace V1 := Aside0.mk (PAll.RR.below V1.out hb)
                  replace V2 := Aside0.mk (PAll.RR.below V2.out hb)
                  replace X10 := Aside0.mk (blk_below X10.out hb)
                  replace X9 := Aside0.mk (blk_below X9.out hb)
                  refine hK.out _ _ ⟨(HS.out.on HB5.out).r0, (HS.out.on HB5.out).r1, (HS.out.on HB5.out).x0, (HS.out.on HB5.out).x1⟩ (fun hHeld => ?_)
                  clear hK K
                  refine norm_ (a' := ?_) ?_ ?_
                  rotate_left
                  · show Act.put _ (some 69) _ = _
                    simp only [Act.put, List.setIfInBounds_toArray, List.set_cons_zero, List.set_cons_succ, i64_w, i32_w]
                    rfl
                  exact norm_ (by simp only [putAll, Act.put, List.setIfInBounds_toArray, List.set_cons_zero, List.set_cons_succ]) (hCont (A3, c3, A4, c4, A5, c5, A6, c6, g9, g10) _ ⟨HB5.out, G9.out, G10.out, HNE.out, V1.out, V2.out, V3.out, V4.out, X9.out, X10.out⟩)
            · refine box_step ?hg (N := 9) ?hd (cs := #[.int .i64 0, .int .i64 0, .slice none 0 0, .slice none 0 0]) (t := 36) ?hr ?_; (case hd => rfl); (case hg => rfl); (case hr => first | (go_simp; done) | (go_simp; rfl))
              intro g9 hg w117 hbox hb
              have X9 := Aside0.mk hbox
              have G9 := Aside0.mk (show w8.heap.size ≤ g9 by rw [hg]; exact HB5.out.size)
              replace HB5 := Aside0.mk (HB5.out.trans (hb.mono HB5.out.size))
              refine hK.out _ _ ⟨(HS.out.on HB5.out).r0, (HS.out.on HB5.out).r1, (HS.out.on HB5.out).x0, (HS.out.on HB5.out).x1⟩ (fun hHeld => ?_)
              clear hK K
              refine norm_ (a' := ?_) ?_ ?_
              rotate_left
              · show Act.put _ (some 9) _ = _
                simp only [Act.put, List.setIfInBounds_toArray, List.set_cons_zero, List.set_cons_succ, i64_w, i32_w]
                rfl
              refine two_ (i := 2) (j := 7) (Ni := some 66) (Nj := some 10) #[true, true, true, true, true, false, true, false, false, false] #[true, true, false, true, true, false, true, true, false, false] rfl rfl rfl rfl (two_of HT_.out (by kernel_rfl)) (by decide) (by decide) (fun K hK => ?_) (fun K hK => ?_)
              · refine goes_ Try.func22 (by kernel_rfl) rfl #[.agg #[.int .i64 a0_0, .slice A0_1 l0_1.length c0_1], .agg #[.int .i64 x, .slice Ax q.length cx]] (by rfl) rfl rfl (by (try simp only [List.map_toArray, List.map_cons, List.map_nil]); first | done | rfl) ?_
                refine (s_diff a0_0 l0_1 x q p m HP.out HM.out HLN.out.1 HLN.out.2 _ _ _ _ _ (HI.out.below (HS.out.on HB5.out).below) ((HS.out.on HB5.out).xl.ints (HS.out.on HB5.out).below)).mono ?_
                rintro e w118 ⟨A3, c3, A4, c4, rfl, h3, h4, hb⟩
                refine ⟨_, rfl, ?_⟩
                have V1 := Aside0.mk h3
                have V2 := Aside0.mk h4
                replace HB5 := Aside0.mk (HB5.out.trans (hb.mono HB5.out.size))
                replace X9 := Aside0.mk (blk_below X9.out hb)
                refine hK.out _ _ ⟨(HS.out.on HB5.out).r0, (HS.out.on HB5.out).r1, (HS.out.on HB5.out).x0, (HS.out.on HB5.out).x1⟩ (fun hHeld => ?_)
                clear hK K
                refine norm_ (a' := ?_) ?_ ?_
                rotate_left
                · show Act.put _ (some 66) _ = _
                  simp only [Act.put, List.setIfInBounds_toArray, List.set_cons_zero, List.set_cons_succ, i64_w, i32_w]
                  rfl
                refine two_ (i := 5) (j := 7) (Ni := some 69) (Nj := some 10) #[true, true, true, true, true, true, true, false, false, false] #[true, true, true, true, true, false, true, true, false, false] rfl rfl rfl rfl (two_of HT_.out (by kernel_rfl)) (by decide) (by decide) (fun K hK => ?_) (fun K hK => ?_)
                · refine goes_ Try.func22 (by kernel_rfl) rfl #[.agg #[.int .i64 x, .slice Ax q.length cx], .agg #[.int .i64 a0_0, .slice A0_1 l0_1.length c0_1]] (by rfl) rfl rfl (by (try simp only [List.map_toArray, List.map_cons, List.map_nil]); first | done | rfl) ?_
                  refine (s_diff x q a0_0 l0_1 m p HM.out HP.out HLN.out.2 HLN.out.1 _ _ _ _ _ ((HS.out.on HB5.out).xl.ints (HS.out.on HB5.out).below) (HI.out.below (HS.out.on HB5.out).below)).mono ?_
                  rintro e w119 ⟨A5, c5, A6, c6, rfl, h3, h4, hb⟩
                  refine ⟨_, rfl, ?_⟩
                  have V3 := Aside0.mk h3
                  have V4 := Aside0.mk h4
                  replace HB5 := Aside0.mk (HB5.out.trans (hb.mono HB5.out.size))
                  replace V1 := Aside0.mk (PAll.RR.below V1.out hb)
                  replace V2 := Aside0.mk (PAll.RR.below V2.out hb)
                  replace X9 := Aside0.mk (blk_below X9.out hb)
                  refine hK.out _ _ ⟨(HS.out.on HB5.out).r0, (HS.out.on HB5.out).r1, (HS.out.on HB5.out).x0, (HS.out.on HB5.out).x1⟩ (fun hHeld => ?_)
                  clear hK K
                  refine norm_ (a' := ?_) ?_ ?_
                  rotate_left
                  · show Act.put _ (some 69) _ = _
                    simp only [Act.put, List.setIfInBounds_toArray, List.set_cons_zero, List.set_cons_succ, i64_w, i32_w]
                    rfl
                  refine one_ (i := 7) (N := some 10) #[true, true, true, true, true, true, true, true, false, false] rfl rfl (one_of HT_.out (by kernel_rfl)) (by decide) (fun K hK => ?_)
                  refine box_step ?hg (N := 10) ?hd (cs := #[.int .i64 0, .int .i64 0, .slice none 0 0, .slice none 0 0]) (t := 36) ?hr ?_; (case hd => rfl); (case hg => rfl); (case hr => first | (go_simp; done) | (go_simp; rfl))
                  intro g10 hg w120 hbox hb
                  have X10 := Aside0.mk hbox
                  have G10 := Aside0.mk (show w8.heap.size ≤ g10 by rw [hg]; exact HB5.out.size)
                  have HNE := Aside0.mk (show g9 ≠ g10 by rw [hg]; exact Nat.ne_of_lt (blk_lt X9.out))
                  replace HB5 := Aside0.mk (HB5.out.trans (hb.mono HB5.out.size))
                  replace V1 := Aside0.mk (PAll.RR.below V1.out hb)
                  replace V2 := Aside0.mk (PAll.RR.below V2.out hb)
                  replace V3 := Aside0.mk (PAll.RR.below V3.out hb)
                  replace V4 := Aside0.mk (PAll.RR.below V4.out hb)
                  replace X9 := Aside0.mk (blk_below X9.out hb)
                  refine hK.out _ _ ⟨(HS.out.on HB5.out).r0, (HS.out.on HB5.out).r1, (HS.out.on HB5.out).x0, (HS.out.on HB5.out).x1⟩ (fun hHeld => ?_)
                  clear hK K
                  refine norm_ (a' := ?_) ?_ ?_
                  rotate_left
                  · show Act.put _ (some 10) _ = _
                    simp only [Act.put, List.setIfInBounds_toArray, List.set_cons_zero, List.set_cons_succ, i64_w, i32_w]
                    rfl
                  exact norm_ (by simp only [putAll, Act.put, List.setIfInBounds_toArray, List.set_cons_zero, List.set_cons_succ]) (hCont (A3, c3, A4, c4, A5, c5, A6, c6, g9, g10) _ ⟨HB5.out, G9.out, G10.out, HNE.out, V1.out, V2.out, V3.out, V4.out, X9.out, X10.out⟩)
                · refine box_step ?hg (N := 10) ?hd (cs := #[.int .i64 0, .int .i64 0, .slice none 0 0, .slice none 0 0]) (t := 36) ?hr ?_; (case hd => rfl); (case hg => rfl); (case hr => first | (go_simp; done) | (go_simp; rfl))
                  intro g10 hg w121 hbox hb
                  have X10 := Aside0.mk hbox
                  have G10 := Aside0.mk (show w8.heap.size ≤ g10 by rw [hg]; exact HB5.out.size)
                  have HNE := Aside0.mk (show g9 ≠ g10 by rw [hg]; exact Nat.ne_of_lt (blk_lt X9.out))
                  replace HB5 := Aside0.mk (HB5.out.trans (hb.mono HB5.out.size))
                  replace V1 := Aside0.mk (PAll.RR.below V1.out hb)
                  replace V2 := Aside0.mk (PAll.RR.below V2.out hb)
                  replace X9 := Aside0.mk (blk_below X9.out hb)
                  refine hK.out _ _ ⟨(HS.out.on HB5.out).r0, (HS.out.on HB5.out).r1, (HS.out.on HB5.out).x0, (HS.out.on HB5.out).x1⟩ (fun hHeld => ?_)
                  clear hK K
                  refine norm_ (a' := ?_) ?_ ?_
                  rotate_left
                  · show Act.put _ (some 10) _ = _
                    simp only [Act.put, List.setIfInBounds_toArray, List.set_cons_zero, List.set_cons_succ, i64_w, i32_w]
                    rfl
                  refine one_ (i := 5) (N := some 69) #[true, true, true, true, true, true, true, true, false, false] rfl rfl (one_of HT_.out (by kernel_rfl)) (by decide) (fun K hK => ?_)
                  refine goes_ Try.func22 (by kernel_rfl) rfl #[.agg #[.int .i64 x, .slice Ax q.length cx], .agg #[.int .i64 a0_0, .slice A0_1 l0_1.length c0_1]] (by rfl) rfl rfl (by (try simp only [List.map_toArray, List.map_cons, List.map_nil]); first | done | rfl) ?_
                  refine (s_diff x q a0_0 l0_1 m p HM.out HP.out HLN.out.2 HLN.out.1 _ _ _ _ _ ((HS.out.on HB5.out).xl.ints (HS.out.on HB5.out).below) (HI.out.below (HS.out.on HB5.out).below)).mono ?_
                  rintro e w122 ⟨A5, c5, A6, c6, rfl, h3, h4, hb⟩
                  refine ⟨_, rfl, ?_⟩
                  have V3 := Aside0.mk h3
                  have V4 := Aside0.mk h4
                  replace HB5 := Aside0.mk (HB5.out.trans (hb.mono HB5.out.size))
                  replace V1 := Aside0.mk (PAll.RR.below V1.out hb)
                  replace V2 := Aside0.mk (PAll.RR.below V2.out hb)
                  replace X10 := Aside0.mk (blk_below X10.out hb)
                  replace X9 := Aside0.mk (blk_below X9.out hb)
                  refine hK.out _ _ ⟨(HS.out.on HB5.out).r0, (HS.out.on HB5.out).r1, (HS.out.on HB5.out).x0, (HS.out.on HB5.out).x1⟩ (fun hHeld => ?_)
                  clear hK K
                  refine norm_ (a' := ?_) ?_ ?_
                  rotate_left
                  · show Act.put _ (some 69) _ = _
                    simp only [Act.put, List.setIfInBounds_toArray, List.set_cons_zero, List.set_cons_succ, i64_w, i32_w]
                    rfl
                  exact norm_ (by simp only [putAll, Act.put, List.setIfInBounds_toArray, List.set_cons_zero, List.set_cons_succ]) (hCont (A3, c3, A4, c4, A5, c5, A6, c6, g9, g10) _ ⟨HB5.out, G9.out, G10.out, HNE.out, V1.out, V2.out, V3.out, V4.out, X9.out, X10.out⟩)
              · refine box_step ?hg (N := 10) ?hd (cs := #[.int .i64 0, .int .i64 0, .slice none 0 0, .slice none 0 0]) (t := 36) ?hr ?_; (case hd => rfl); (case hg => rfl); (case hr => first | (go_simp; done) | (go_simp; rfl))
                intro g10 hg w123 hbox hb
                have X10 := Aside0.mk hbox
                have G10 := Aside0.mk (show w8.heap.size ≤ g10 by rw [hg]; exact HB5.out.size)
                have HNE := Aside0.mk (show g9 ≠ g10 by rw [hg]; exact Nat.ne_of_lt (blk_lt X9.out))
                replace HB5 := Aside0.mk (HB5.out.trans (hb.mono HB5.out.size))
                replace X9 := Aside0.mk (blk_below X9.out hb)
                refine hK.out _ _ ⟨(HS.out.on HB5.out).r0, (HS.out.on HB5.out).r1, (HS.out.on HB5.out).x0, (HS.out.on HB5.out).x1⟩ (fun hHeld => ?_)
                clear hK K
                refine norm_ (a' := ?_) ?_ ?_
                rotate_left
                · show Act.put _ (some 10) _ = _
                  simp only [Act.put, List.setIfInBounds_toArray, List.set_cons_zero, List.set_cons_succ, i64_w, i32_w]
                  rfl
                refine one_ (i := 2) (N := some 66) #[true, true, true, true, true, false, true, true, false, false] rfl rfl (one_of HT_.out (by kernel_rfl)) (by decide) (fun K hK => ?_)
                refine goes_ Try.func22 (by kernel_rfl) rfl #[.agg #[.int .i64 a0_0, .slice A0_1 l0_1.length c0_1], .agg #[.int .i64 x, .slice Ax q.length cx]] (by rfl) rfl rfl (by (try simp only [List.map_toArray, List.map_cons, List.map_nil]); first | done | rfl) ?_
                refine (s_diff a0_0 l0_1 x q p m HP.out HM.out HLN.out.1 HLN.out.2 _ _ _ _ _ (HI.out.below (HS.out.on HB5.out).below) ((HS.out.on HB5.out).xl.ints (HS.out.on HB5.out).below)).mono ?_
                rintro e w124 ⟨A3, c3, A4, c4, rfl, h3, h4, hb⟩
                refine ⟨_, rfl, ?_⟩
                have V1 := Aside0.mk h3
                have V2 := Aside0.mk h4
                replace HB5 := Aside0.mk (HB5.out.trans (hb.mono HB5.out.size))
                replace X10 := Aside0.mk (blk_below X10.out hb)
                replace X9 := Aside0.mk (blk_below X9.out hb)
                refine hK.out _ _ ⟨(HS.out.on HB5.out).r0, (HS.out.on HB5.out).r1, (HS.out.on HB5.out).x0, (HS.out.on HB5.out).x1⟩ (fun hHeld => ?_)
                clear hK K
                refine norm_ (a' := ?_) ?_ ?_
                rotate_left
                · show Act.put _ (some 66) _ = _
                  simp only [Act.put, List.setIfInBounds_toArray, List.set_cons_zero, List.set_cons_succ, i64_w, i32_w]
                  rfl
                refine one_ (i := 5) (N := some 69) #[true, true, true, true, true, true, true, true, false, false] rfl rfl (one_of HT_.out (by kernel_rfl)) (by decide) (fun K hK => ?_)
                refine goes_ Try.func22 (by kernel_rfl) rfl #[.agg #[.int .i64 x, .slice Ax q.length cx], .agg #[.int .i64 a0_0, .slice A0_1 l0_1.length c0_1]] (by rfl) rfl rfl (by (try simp only [List.map_toArray, List.map_cons, List.map_nil]); first | done | rfl) ?_
                refine (s_diff x q a0_0 l0_1 m p HM.out HP.out HLN.out.2 HLN.out.1 _ _ _ _ _ ((HS.out.on HB5.out).xl.ints (HS.out.on HB5.out).below) (HI.out.below (HS.out.on HB5.out).below)).mono ?_
                rintro e w125 ⟨A5, c5, A6, c6, rfl, h3, h4, hb⟩
                refine ⟨_, rfl, ?_⟩
                have V3 := Aside0.mk h3
                have V4 := Aside0.mk h4
                replace HB5 := Aside0.mk (HB5.out.trans (hb.mono HB5.out.size))
                replace V1 := Aside0.mk (PAll.RR.below V1.out hb)
                replace V2 := Aside0.mk (PAll.RR.below V2.out hb)
                replace X10 := Aside0.mk (blk_below X10.out hb)
                replace X9 := Aside0.mk (blk_below X9.out hb)
                refine hK.out _ _ ⟨(HS.out.on HB5.out).r0, (HS.out.on HB5.out).r1, (HS.out.on HB5.out).x0, (HS.out.on HB5.out).x1⟩ (fun hHeld => ?_)
                clear hK K
                refine norm_ (a' := ?_) ?_ ?_
                rotate_left
                · show Act.put _ (some 69) _ = _
                  simp only [Act.put, List.setIfInBounds_toArray, List.set_cons_zero, List.set_cons_succ, i64_w, i32_w]
                  rfl
                exact norm_ (by simp only [putAll, Act.put, List.setIfInBounds_toArray, List.set_cons_zero, List.set_cons_succ]) (hCont (A3, c3, A4, c4, A5, c5, A6, c6, g9, g10) _ ⟨HB5.out, G9.out, G10.out, HNE.out, V1.out, V2.out, V3.out, V4.out, X9.out, X10.out⟩)
            · refine box_step ?hg (N := 10) ?hd (cs := #[.int .i64 0, .int .i64 0, .slice none 0 0, .slice none 0 0]) (t := 36) ?hr ?_; (case hd => rfl); (case hg => rfl); (case hr => first | (go_simp; done) | (go_simp; rfl))
              intro g10 hg w126 hbox hb
              have X10 := Aside0.mk hbox
              have G10 := Aside0.mk (show w8.heap.size ≤ g10 by rw [hg]; exact HB5.out.size)
              replace HB5 := Aside0.mk (HB5.out.trans (hb.mono HB5.out.size))
              refine hK.out _ _ ⟨(HS.out.on HB5.out).r0, (HS.out.on HB5.out).r1, (HS.out.on HB5.out).x0, (HS.out.on HB5.out).x1⟩ (fun hHeld => ?_)
              clear hK K
              refine norm_ (a' := ?_) ?_ ?_
              rotate_left
              · show Act.put _ (some 10) _ = _
                simp only [Act.put, List.setIfInBounds_toArray, List.set_cons_zero, List.set_cons_succ, i64_w, i32_w]
                rfl
              refine two_ (i := 2) (j := 6) (Ni := some 66) (Nj := some 9) #[true, true, true, true, true, false, false, true, false, false] #[true, true, false, true, true, false, true, true, false, false] rfl rfl rfl rfl (two_of HT_.out (by kernel_rfl)) (by decide) (by decide) (fun K hK => ?_) (fun K hK => ?_)
              · refine goes_ Try.func22 (by kernel_rfl) rfl #[.agg #[.int .i64 a0_0, .slice A0_1 l0_1.length c0_1], .agg #[.int .i64 x, .slice Ax q.length cx]] (by rfl) rfl rfl (by (try simp only [List.map_toArray, List.map_cons, List.map_nil]); first | done | rfl) ?_
                refine (s_diff a0_0 l0_1 x q p m HP.out HM.out HLN.out.1 HLN.out.2 _ _ _ _ _ (HI.out.below (HS.out.on HB5.out).below) ((HS.out.on HB5.out).xl.ints (HS.out.on HB5.out).below)).mono ?_
                rintro e w127 ⟨A3, c3, A4, c4, rfl, h3, h4, hb⟩
                refine ⟨_, rfl, ?_⟩
                have V1 := Aside0.mk h3
                have V2 := Aside0.mk h4
                replace HB5 := Aside0.mk (HB5.out.trans (hb.mono HB5.out.size))
                replace X10 := Aside0.mk (blk_below X10.out hb)
                refine hK.out _ _ ⟨(HS.out.on HB5.out).r0, (HS.out.on HB5.out).r1, (HS.out.on HB5.out).x0, (HS.out.on HB5.out).x1⟩ (fun hHeld => ?_)
                clear hK K
                refine norm_ (a' := ?_) ?_ ?_
                rotate_left
                · show Act.put _ (some 66) _ = _
                  simp only [Act.put, List.setIfInBounds_toArray, List.set_cons_zero, List.set_cons_succ, i64_w, i32_w]
                  rfl
                refine two_ (i := 5) (j := 6) (Ni := some 69) (Nj := some 9) #[true, true, true, true, true, true, false, true, false, false] #[true, true, true, true, true, false, true, true, false, false] rfl rfl rfl rfl (two_of HT_.out (by kernel_rfl)) (by decide) (by decide) (fun K hK => ?_) (fun K hK => ?_)
                · refine goes_ Try.func22 (by kernel_rfl) rfl #[.agg #[.int .i64 x, .slice Ax q.length cx], .agg #[.int .i64 a0_0, .slice A0_1 l0_1.length c0_1]] (by rfl) rfl rfl (by (try simp only [List.map_toArray, List.map_cons, List.map_nil]); first | done | rfl) ?_
                  refine (s_diff x q a0_0 l0_1 m p HM.out HP.out HLN.out.2 HLN.out.1 _ _ _ _ _ ((HS.out.on HB5.out).xl.ints (HS.out.on HB5.out).below) (HI.out.below (HS.out.on HB5.out).below)).mono ?_
                  rintro e w128 ⟨A5, c5, A6, c6, rfl, h3, h4, hb⟩
                  refine ⟨_, rfl, ?_⟩
                  have V3 := Aside0.mk h3
                  have V4 := Aside0.mk h4
                  replace HB5 := Aside0.mk (HB5.out.trans (hb.mono HB5.out.size))
                  replace V1 := Aside0.mk (PAll.RR.below V1.out hb)
                  replace V2 := Aside0.mk (PAll.RR.below V2.out hb)
                  replace X10 := Aside0.mk (blk_below X10.out hb)
                  refine hK.out _ _ ⟨(HS.out.on HB5.out).r0, (HS.out.on HB5.out).r1, (HS.out.on HB5.out).x0, (HS.out.on HB5.out).x1⟩ (fun hHeld => ?_)
                  clear hK K
                  refine norm_ (a' := ?_) ?_ ?_
                  rotate_left
                  · show Act.put _ (some 69) _ = _
                    simp only [Act.put, List.setIfInBounds_toArray, List.set_cons_zero, List.set_cons_succ, i64_w, i32_w]
                    rfl
                  refine one_ (i := 6) (N := some 9) #[true, true, true, true, true, true, true, true, false, false] rfl rfl (one_of HT_.out (by kernel_rfl)) (by decide) (fun K hK => ?_)
                  refine box_step ?hg (N := 9) ?hd (cs := #[.int .i64 0, .int .i64 0, .slice none 0 0, .slice none 0 0]) (t := 36) ?hr ?_; (case hd => rfl); (case hg => rfl); (case hr => first | (go_simp; done) | (go_simp; rfl))
                  intro g9 hg w129 hbox hb
                  have X9 := Aside0.mk hbox
                  have G9 := Aside0.mk (show w8.heap.size ≤ g9 by rw [hg]; exact HB5.out.size)
                  have HNE := Aside0.mk (show g9 ≠ g10 by rw [hg]; exact Nat.ne_of_gt (blk_lt X10.out))
                  replace HB5 := Aside0.mk (HB5.out.trans (hb.mono HB5.out.size))
                  replace V1 := Aside0.mk (PAll.RR.below V1.out hb)
                  replace V2 := Aside0.mk (PAll.RR.below V2.out hb)
                  replace V3 := Aside0.mk (PAll.RR.below V3.out hb)
                  replace V4 := Aside0.mk (PAll.RR.below V4.out hb)
                  replace X10 := Aside0.mk (blk_below X10.out hb)
                  refine hK.out _ _ ⟨(HS.out.on HB5.out).r0, (HS.out.on HB5.out).r1, (HS.out.on HB5.out).x0, (HS.out.on HB5.out).x1⟩ (fun hHeld => ?_)
                  clear hK K
                  refine norm_ (a' := ?_) ?_ ?_
                  rotate_left
                  · show Act.put _ (some 9) _ = _
                    simp only [Act.put, List.setIfInBounds_toArray, List.set_cons_zero, List.set_cons_succ, i64_w, i32_w]
                    rfl
                  exact norm_ (by simp only [putAll, Act.put, List.setIfInBounds_toArray, List.set_cons_zero, List.set_cons_succ]) (hCont (A3, c3, A4, c4, A5, c5, A6, c6, g9, g10) _ ⟨HB5.out, G9.out, G10.out, HNE.out, V1.out, V2.out, V3.out, V4.out, X9.out, X10.out⟩)
                · refine box_step ?hg (N := 9) ?hd (cs := #[.int .i64 0, .int .i64 0, .slice none 0 0, .slice none 0 0]) (t := 36) ?hr ?_; (case hd => rfl); (case hg => rfl); (case hr => first | (go_simp; done) | (go_simp; rfl))
                  intro g9 hg w130 hbox hb
                  have X9 := Aside0.mk hbox
                  have G9 := Aside0.mk (show w8.heap.size ≤ g9 by rw [hg]; exact HB5.out.size)
                  have HNE := Aside0.mk (show g9 ≠ g10 by rw [hg]; exact Nat.ne_of_gt (blk_lt X10.out))
                  replace HB5 := Aside0.mk (HB5.out.trans (hb.mono HB5.out.size))
                  replace V1 := Aside0.mk (PAll.RR.below V1.out hb)
                  replace V2 := Aside0.mk (PAll.RR.below V2.out hb)
                  replace X10 := Aside0.mk (blk_below X10.out hb)
                  refine hK.out _ _ ⟨(HS.out.on HB5.out).r0, (HS.out.on HB5.out).r1, (HS.out.on HB5.out).x0, (HS.out.on HB5.out).x1⟩ (fun hHeld => ?_)
                  clear hK K
                  refine norm_ (a' := ?_) ?_ ?_
                  rotate_left
                  · show Act.put _ (some 9) _ = _
                    simp only [Act.put, List.setIfInBounds_toArray, List.set_cons_zero, List.set_cons_succ, i64_w, i32_w]
                    rfl
                  refine one_ (i := 5) (N := some 69) #[true, true, true, true, true, true, true, true, false, false] rfl rfl (one_of HT_.out (by kernel_rfl)) (by decide) (fun K hK => ?_)
                  refine goes_ Try.func22 (by kernel_rfl) rfl #[.agg #[.int .i64 x, .slice Ax q.length cx], .agg #[.int .i64 a0_0, .slice A0_1 l0_1.length c0_1]] (by rfl) rfl rfl (by (try simp only [List.map_toArray, List.map_cons, List.map_nil]); first | done | rfl) ?_
                  refine (s_diff x q a0_0 l0_1 m p HM.out HP.out HLN.out.2 HLN.out.1 _ _ _ _ _ ((HS.out.on HB5.out).xl.ints (HS.out.on HB5.out).below) (HI.out.below (HS.out.on HB5.out).below)).mono ?_
                  rintro e w131 ⟨A5, c5, A6, c6, rfl, h3, h4, hb⟩
                  refine ⟨_, rfl, ?_⟩
                  have V3 := Aside0.mk h3
                  have V4 := Aside0.mk h4
                  replace HB5 := Aside0.mk (HB5.out.trans (hb.mono HB5.out.size))
                  replace V1 := Aside0.mk (PAll.RR.below V1.out hb)
                  replace V2 := Aside0.mk (PAll.RR.below V2.out hb)
                  replace X10 := Aside0.mk (blk_below X10.out hb)
                  replace X9 := Aside0.mk (blk_below X9.out hb)
                  refine hK.out _ _ ⟨(HS.out.on HB5.out).r0, (HS.out.on HB5.out).r1, (HS.out.on HB5.out).x0, (HS.out.on HB5.out).x1⟩ (fun hHeld => ?_)
                  clear hK K
                  refine norm_ (a' := ?_) ?_ ?_
                  rotate_left
                  · show Act.put _ (some 69) _ = _
                    simp only [Act.put, List.setIfInBounds_toArray, List.set_cons_zero, List.set_cons_succ, i64_w, i32_w]
                    rfl
                  exact norm_ (by simp only [putAll, Act.put, List.setIfInBounds_toArray, List.set_cons_zero, List.set_cons_succ]) (hCont (A3, c3, A4, c4, A5, c5, A6, c6, g9, g10) _ ⟨HB5.out, G9.out, G10.out, HNE.out, V1.out, V2.out, V3.out, V4.out, X9.out, X10.out⟩)
              · refine box_step ?hg (N := 9) ?hd (cs := #[.int .i64 0, .int .i64 0, .slice none 0 0, .slice none 0 0]) (t := 36) ?hr ?_; (case hd => rfl); (case hg => rfl); (case hr => first | (go_simp; done) | (go_simp; rfl))
                intro g9 hg w132 hbox hb
                have X9 := Aside0.mk hbox
                have G9 := Aside0.mk (show w8.heap.size ≤ g9 by rw [hg]; exact HB5.out.size)
                have HNE := Aside0.mk (show g9 ≠ g10 by rw [hg]; exact Nat.ne_of_gt (blk_lt X10.out))
                replace HB5 := Aside0.mk (HB5.out.trans (hb.mono HB5.out.size))
                replace X10 := Aside0.mk (blk_below X10.out hb)
                refine hK.out _ _ ⟨(HS.out.on HB5.out).r0, (HS.out.on HB5.out).r1, (HS.out.on HB5.out).x0, (HS.out.on HB5.out).x1⟩ (fun hHeld => ?_)
                clear hK K
                refine norm_ (a' := ?_) ?_ ?_
                rotate_left
                · show Act.put _ (some 9) _ = _
                  simp only [Act.put, List.setIfInBounds_toArray, List.set_cons_zero, List.set_cons_succ, i64_w, i32_w]
                  rfl
                refine one_ (i := 2) (N := some 66) #[true, true, true, true, true, false, true, true, false, false] rfl rfl (one_of HT_.out (by kernel_rfl)) (by decide) (fun K hK => ?_)
                refine goes_ Try.func22 (by kernel_rfl) rfl #[.agg #[.int .i64 a0_0, .slice A0_1 l0_1.length c0_1], .agg #[.int .i64 x, .slice Ax q.length cx]] (by rfl) rfl rfl (by (try simp only [List.map_toArray, List.map_cons, List.map_nil]); first | done | rfl) ?_
                refine (s_diff a0_0 l0_1 x q p m HP.out HM.out HLN.out.1 HLN.out.2 _ _ _ _ _ (HI.out.below (HS.out.on HB5.out).below) ((HS.out.on HB5.out).xl.ints (HS.out.on HB5.out).below)).mono ?_
                rintro e w133 ⟨A3, c3, A4, c4, rfl, h3, h4, hb⟩
                refine ⟨_, rfl, ?_⟩
                have V1 := Aside0.mk h3
                have V2 := Aside0.mk h4
                replace HB5 := Aside0.mk (HB5.out.trans (hb.mono HB5.out.size))
                replace X10 := Aside0.mk (blk_below X10.out hb)
                replace X9 := Aside0.mk (blk_below X9.out hb)
                refine hK.out _ _ ⟨(HS.out.on HB5.out).r0, (HS.out.on HB5.out).r1, (HS.out.on HB5.out).x0, (HS.out.on HB5.out).x1⟩ (fun hHeld => ?_)
                clear hK K
                refine norm_ (a' := ?_) ?_ ?_
                rotate_left
                · show Act.put _ (some 66) _ = _
                  simp only [Act.put, List.setIfInBounds_toArray, List.set_cons_zero, List.set_cons_succ, i64_w, i32_w]
                  rfl
                refine one_ (i := 5) (N := some 69) #[true, true, true, true, true, true, true, true, false, false] rfl rfl (one_of HT_.out (by kernel_rfl)) (by decide) (fun K hK => ?_)
                refine goes_ Try.func22 (by kernel_rfl) rfl #[.agg #[.int .i64 x, .slice Ax q.length cx], .agg #[.int .i64 a0_0, .slice A0_1 l0_1.length c0_1]] (by rfl) rfl rfl (by (try simp only [List.map_toArray, List.map_cons, List.map_nil]); first | done | rfl) ?_
                refine (s_diff x q a0_0 l0_1 m p HM.out HP.out HLN.out.2 HLN.out.1 _ _ _ _ _ ((HS.out.on HB5.out).xl.ints (HS.out.on HB5.out).below) (HI.out.below (HS.out.on HB5.out).below)).mono ?_
                rintro e w134 ⟨A5, c5, A6, c6, rfl, h3, h4, hb⟩
                refine ⟨_, rfl, ?_⟩
                have V3 := Aside0.mk h3
                have V4 := Aside0.mk h4
                replace HB5 := Aside0.mk (HB5.out.trans (hb.mono HB5.out.size))
                replace V1 := Aside0.mk (PAll.RR.below V1.out hb)
                replace V2 := Aside0.mk (PAll.RR.below V2.out hb)
                replace X10 := Aside0.mk (blk_below X10.out hb)
                replace X9 := Aside0.mk (blk_below X9.out hb)
                refine hK.out _ _ ⟨(HS.out.on HB5.out).r0, (HS.out.on HB5.out).r1, (HS.out.on HB5.out).x0, (HS.out.on HB5.out).x1⟩ (fun hHeld => ?_)
                clear hK K
                refine norm_ (a' := ?_) ?_ ?_
                rotate_left
                · show Act.put _ (some 69) _ = _
                  simp only [Act.put, List.setIfInBounds_toArray, List.set_cons_zero, List.set_cons_succ, i64_w, i32_w]
                  rfl
                exact norm_ (by simp only [putAll, Act.put, List.setIfInBounds_toArray, List.set_cons_zero, List.set_cons_succ]) (hCont (A3, c3, A4, c4, A5, c5, A6, c6, g9, g10) _ ⟨HB5.out, G9.out, G10.out, HNE.out, V1.out, V2.out, V3.out, V4.out, X9.out, X10.out⟩)
          rintro ⟨A3, c3, A4, c4, A5, c5, A6, c6, g9, g10⟩ w9 ⟨hB, h9, h10, hne, h3, h4, h5, h6, hx9, hx10⟩
          dsimp only at hB h9 h10 hne h3 h4 h5 h6 hx9 hx10
          replace HB5 := Aside0.mk hB
          have G9 := Aside0.mk h9
          have G10 := Aside0.mk h10
          have HNE := Aside0.mk hne
          have V1 := Aside0.mk h3
          have V2 := Aside0.mk h4
          have V3 := Aside0.mk h5
          have V4 := Aside0.mk h6
          have X9 := Aside0.mk hx9
          have X10 := Aside0.mk hx10
          clear hB h9 h10 hne h3 h4 h5 h6 hx9 hx10 hHeld
          have hHeld : w9.cell? ⟨w.heap.size, 0, none⟩ = some (.int .i64 a0_0) ∧ w9.cell? ⟨w.heap.size, 1, none⟩ = some (.slice A0_1 l0_1.length c0_1) ∧ w9.cell? ⟨w2.heap.size, 0, none⟩ = some (.int .i64 x) ∧ w9.cell? ⟨w2.heap.size, 1, none⟩ = some (.slice Ax q.length cx) := ⟨(HS.out.on HB5.out).r0, (HS.out.on HB5.out).r1, (HS.out.on HB5.out).x0, (HS.out.on HB5.out).x1⟩
          refine norm_ (a' := ?_) ?_ ?_
          rotate_left
          · simp only [putAll, Act.put, List.setIfInBounds_toArray, List.set_cons_zero, List.set_cons_succ]
            rfl
          refine one_ (i := 8) (N := none) #[true, true, true, true, true, true, true, true, true, false] rfl rfl (one_of HT_.out (by kernel_rfl)) (by decide) (fun K hK => ?_)
          have hs0 : w9.cell? ⟨g9, 0, none⟩ = some (.int .i64 0) := (blk_cell X9.out 0).trans rfl
          have hfs0 := blk_frozen X9.out 0
          have hs1 : w9.cell? ⟨g9, 1, none⟩ = some (.int .i64 0) := (blk_cell X9.out 1).trans rfl
          have hfs1 := blk_frozen X9.out 1
          have hs2 : w9.cell? ⟨g9, 2, none⟩ = some (.slice none 0 0) := (blk_cell X9.out 2).trans rfl
          have hfs2 := blk_frozen X9.out 2
          have hs3 : w9.cell? ⟨g9, 3, none⟩ = some (.slice none 0 0) := (blk_cell X9.out 3).trans rfl
          have hfs3 := blk_frozen X9.out 3
          refine skip_ (w1 := ?_) (by rfl) rfl ?_ ?_
          rotate_left
          · go_simp
            rfl
          have P4 := put4 X9.out a0_0 x (.slice A3 p.length c3) (.slice A4 m.length c4)
          have HBE := Aside0.mk (show Below w8.heap.size w8 ((((w9.setCell ⟨g9, 0, none⟩ (.int .i64 a0_0)).setCell ⟨g9, 1, none⟩ (.int .i64 x)).setCell ⟨g9, 2, none⟩ (.slice A3 p.length c3)).setCell ⟨g9, 3, none⟩ (.slice A4 m.length c4)) from below_set (below_set (below_set (below_set HB5.out G9.out) G9.out) G9.out) G9.out)
          have n0 := Aside0.mk P4.1
          have n1 := Aside0.mk (P4.2.2 _ _ (fun h => HNE.out h.symm) X10.out)
          have m1 := Aside0.mk (P4.2.1 _ _ V1.out)
          have m2 := Aside0.mk (P4.2.1 _ _ V2.out)
          have m3 := Aside0.mk (P4.2.1 _ _ V3.out)
          have m4 := Aside0.mk (P4.2.1 _ _ V4.out)
          clear P4 HB5 X9 X10 V1 V2 V3 V4 hs0 hs1 hs2 hs3 hfs0 hfs1 hfs2 hfs3 hHeld
          have HB5 := HBE
          have X9 := n0
          have X10 := n1
          have V1 := m1
          have V2 := m2
          have V3 := m3
          have V4 := m4
          clear HBE n0 n1 m1 m2 m3 m4
          refine hK.out _ _ ⟨(HS.out.on HB5.out).r0, (HS.out.on HB5.out).r1, (HS.out.on HB5.out).x0, (HS.out.on HB5.out).x1⟩ (fun hHeld => ?_)
          clear hK K
          generalize ((((w9.setCell ⟨g9, 0, none⟩ (.int .i64 a0_0)).setCell ⟨g9, 1, none⟩ (.int .i64 x)).setCell ⟨g9, 2, none⟩ (.slice A3 p.length c3)).setCell ⟨g9, 3, none⟩ (.slice A4 m.length c4)) = w10 at hHeld HB5 X9 X10 V1 V2 V3 V4 ⊢
          refine one_ (i := 9) (N := none) #[true, true, true, true, true, true, true, true, true, true] rfl rfl (one_of HT_.out (by kernel_rfl)) (by decide) (fun K hK => ?_)
          have hs0 : w10.cell? ⟨g10, 0, none⟩ = some (.int .i64 0) := (blk_cell X10.out 0).trans rfl
          have hfs0 := blk_frozen X10.out 0
          have hs1 : w10.cell? ⟨g10, 1, none⟩ = some (.int .i64 0) := (blk_cell X10.out 1).trans rfl
          have hfs1 := blk_frozen X10.out 1
          have hs2 : w10.cell? ⟨g10, 2, none⟩ = some (.slice none 0 0) := (blk_cell X10.out 2).trans rfl
          have hfs2 := blk_frozen X10.out 2
          have hs3 : w10.cell? ⟨g10, 3, none⟩ = some (.slice none 0 0) := (blk_cell X10.out 3).trans rfl
          have hfs3 := blk_frozen X10.out 3
          refine skip_ (w1 := ?_) (by rfl) rfl ?_ ?_
          rotate_left
          · go_simp
            rfl
          have P4 := put4 X10.out x a0_0 (.slice A5 m.length c5) (.slice A6 p.length c6)
          have HBE := Aside0.mk (show Below w8.heap.size w8 ((((w10.setCell ⟨g10, 0, none⟩ (.int .i64 x)).setCell ⟨g10, 1, none⟩ (.int .i64 a0_0)).setCell ⟨g10, 2, none⟩ (.slice A5 m.length c5)).setCell ⟨g10, 3, none⟩ (.slice A6 p.length c6)) from below_set (below_set (below_set (below_set HB5.out G10.out) G10.out) G10.out) G10.out)
          have n0 := Aside0.mk P4.1
          have n1 := Aside0.mk (P4.2.2 _ _ HNE.out X9.out)
          have m1 := Aside0.mk (P4.2.1 _ _ V1.out)
          have m2 := Aside0.mk (P4.2.1 _ _ V2.out)
          have m3 := Aside0.mk (P4.2.1 _ _ V3.out)
          have m4 := Aside0.mk (P4.2.1 _ _ V4.out)
          clear P4 HB5 X9 X10 V1 V2 V3 V4 hs0 hs1 hs2 hs3 hfs0 hfs1 hfs2 hfs3 hHeld
          have HB5 := HBE
          have X10 := n0
          have X9 := n1
          have V1 := m1
          have V2 := m2
          have V3 := m3
          have V4 := m4
          clear HBE n0 n1 m1 m2 m3 m4
          refine hK.out _ _ ⟨(HS.out.on HB5.out).r0, (HS.out.on HB5.out).r1, (HS.out.on HB5.out).x0, (HS.out.on HB5.out).x1⟩ (fun hHeld => ?_)
          clear hK K
          clear hHeld
          refine done_ (done_of HT_.out (by kernel_rfl)) ?_
          generalize ((((w10.setCell ⟨g10, 0, none⟩ (.int .i64 x)).setCell ⟨g10, 1, none⟩ (.int .i64 a0_0)).setCell ⟨g10, 2, none⟩ (.slice A5 m.length c5)).setCell ⟨g10, 3, none⟩ (.slice A6 p.length c6)) = w11 at HB5 X9 X10 V1 V2 V3 V4 ⊢
          have n0 := Aside0.mk (HS.out.on HB5.out)
          clear HS
          have HS := n0
          clear n0
          have I3 := Aside0.mk (PAll.RR.ints V1.out rfl)
          have I4 := Aside0.mk (PAll.RR.ints V2.out rfl)
          have I5 := Aside0.mk (PAll.RR.ints V3.out rfl)
          have I6 := Aside0.mk (PAll.RR.ints V4.out rfl)
          clear V1 V2 V3 V4 HB5 G9 G10 HNE HT_ HW_
          have hr0 := HS.out.r0
          have hr1 := HS.out.r1
          have hd0 := blk_cell X9.out 0
          have hd1 := blk_cell X9.out 1
          have hd2 := blk_cell X9.out 2
          have hd3 := blk_cell X9.out 3
          have hlen := (Pure.right_zero a0_0 l0_1).1 HRT.out
          have hlq := (Pure.right_zero x q).1 HQ.out.1
          have hpl : p.length ≤ q.length := by rw [HP.out]; exact Pure.minus_len q l0_1
          have hml : m.length ≤ l0_1.length := by rw [HM.out]; exact Pure.minus_len l0_1 q
          have HAP := Aside0.mk (show applyS a0_0 l0_1 a0_0 x p m = (x, q, 0) by rw [HP.out, HM.out, Pure.apply_diff a0_0 l0_1 x q HQ.out.1, if_neg (by have := HQ.out.2.1; omega)])
          have HLL := Aside0.mk (show Pure.Inc l0_1 ∧ l0_1.length ≤ 1000 ∧ p.length ≤ 1000 ∧ m.length ≤ 1000 from ⟨hlen.2.2.2, by omega, by omega, by omega⟩)
          have hgt : x ≤ a0_0 + (l1.length : Int) := HQ.out.2.2
          clear hlen hlq hpl hml
          go_wp2_with (first
            | (go_at_call 19; (with_reducible refine (s_apply a0_0 l0_1 a0_0 x p m x q 0 HAP.out HLL.out.1 HLL.out.2.1 HLL.out.2.2.1 HLL.out.2.2.2 w11 _ _ _ _ _ _ (HI.out.below HS.out.below) I3.out I4.out).mono ?_); rintro e w12 ⟨A11, c11, rfl, hI, hb⟩; clear hr0 hr1 hd0 hd1 hd2 hd3; have IA := Aside0.mk hI; have n0 := Aside0.mk (HS.out.on hb); have n1 := Aside0.mk (blk_below X9.out hb); have n2 := Aside0.mk (blk_below X10.out hb); clear HS X9 X10; have HS := n0; have X9 := n1; have X10 := n2; clear n0 n1 n2; replace I3 := Aside0.mk (PAll.Ints.below I3.out hb); replace I4 := Aside0.mk (PAll.Ints.below I4.out hb); replace I5 := Aside0.mk (PAll.Ints.below I5.out hb); replace I6 := Aside0.mk (PAll.Ints.below I6.out hb); clear hI hb; have HSB := Aside0.mk (HS.out.on (below_alloc (Below.refl _ _) (.cells #[.int .i64 x, .slice A11 q.length c11] 24))); have hx0 := HSB.out.x0; have hx1 := HSB.out.x1)
            | (go_at_call 18; (with_reducible refine (c_eq x q HLN.out.2 _ _ _ _ _ (IA.out.alloc _) (HSB.out.xl.ints HSB.out.below)).mono ?_); rintro e w13 ⟨rfl, hb0⟩; have hb : Below (World.heap w12).size w12 w13 := (below_alloc (Below.refl _ _) _).trans (hb0.mono (by simp)); clear hx0 hx1 hb0 HSB; have n0 := Aside0.mk (HS.out.on hb); have n1 := Aside0.mk (blk_below X9.out hb); have n2 := Aside0.mk (blk_below X10.out hb); clear HS X9 X10; have HS := n0; have X9 := n1; have X10 := n2; clear n0 n1 n2; replace I3 := Aside0.mk (PAll.Ints.below I3.out hb); replace I4 := Aside0.mk (PAll.Ints.below I4.out hb); replace I5 := Aside0.mk (PAll.Ints.below I5.out hb); replace I6 := Aside0.mk (PAll.Ints.below I6.out hb); clear hb; have hx0 := HS.out.x0; have hr0 := HS.out.r0))
          clear hx0 hr0 hgt
          have n0 := Aside0.mk (HS.out.on (below_drew (Below.refl _ _)))
          have n1 := Aside0.mk (blk_below X9.out (below_drew (Below.refl _ _)))
          have n2 := Aside0.mk (blk_below X10.out (below_drew (Below.refl _ _)))
          clear HS X9 X10
          have HS := n0
          have X9 := n1
          have X10 := n2
          clear n0 n1 n2
          replace I3 := Aside0.mk (PAll.Ints.below I3.out (below_drew (Below.refl _ _)))
          replace I4 := Aside0.mk (PAll.Ints.below I4.out (below_drew (Below.refl _ _)))
          replace I5 := Aside0.mk (PAll.Ints.below I5.out (below_drew (Below.refl _ _)))
          replace I6 := Aside0.mk (PAll.Ints.below I6.out (below_drew (Below.refl _ _)))
          refine start_ (n := 23) (S := fun w' => w'.cell? ⟨g10, 0, none⟩ = some (.int .i64 x) ∧ w'.cell? ⟨g10, 1, none⟩ = some (.int .i64 a0_0) ∧ w'.cell? ⟨g10, 2, none⟩ = some (.slice A5 m.length c5) ∧ w'.cell? ⟨g10, 3, none⟩ = some (.slice A6 p.length c6) ∧ w'.cell? ⟨g9, 0, none⟩ = some (.int .i64 a0_0) ∧ w'.cell? ⟨g9, 1, none⟩ = some (.int .i64 x) ∧ w'.cell? ⟨g9, 2, none⟩ = some (.slice A3 p.length c3) ∧ w'.cell? ⟨g9, 3, none⟩ = some (.slice A4 m.length c4) ∧ w'.cell? ⟨w2.heap.size, 0, none⟩ = some (.int .i64 x) ∧ w'.cell? ⟨w2.heap.size, 1, none⟩ = some (.slice Ax q.length cx)) (ds := []) #[false, false, false, false, false, false, false, false, false, false, false, false, false, false, false, false, false, false, false, false, false, false, false] (by kernel_rfl) rfl rfl ⟨blk_cell X10.out 0, blk_cell X10.out 1, blk_cell X10.out 2, blk_cell X10.out 3, blk_cell X9.out 0, blk_cell X9.out 1, blk_cell X9.out 2, blk_cell X9.out 3, HS.out.x0, HS.out.x1⟩ (fun hHeld => ?_); refine with_tabW st_tab18 st_bits18 (fun HT_ HW_ => ?_)
          generalize w13.drew = w14 at HS X9 X10 I3 I4 I5 I6 hHeld ⊢
          have HB5 := Aside0.mk (Below.refl w14.heap.size w14)
          refine pure_ (i := 1) (N := some 95) (v := ?_) (a' := ?_) #[false, true, false, false, false, false, false, false, false, false, false, false, false, false, false, false, false, false, false, false, false, false, false] rfl rfl (any_of HT_.out (by kernel_rfl)) (fun _ _ _ h => h) (Or.inl ⟨by rfl, ?_⟩) ?_ ?_
          rotate_left
          · intro w'
            go_simp
            with_reducible rfl
          rotate_left
          · simp only [Act.put, List.setIfInBounds_toArray, List.set_cons_zero, List.set_cons_succ, i64_w, i32_w]
            rfl
          refine pure_ (i := 3) (N := some 97) (v := ?_) (a' := ?_) #[false, true, false, true, false, false, false, false, false, false, false, false, false, false, false, false, false, false, false, false, false, false, false] rfl rfl (any_of HT_.out (by kernel_rfl)) (fun _ _ _ h => h) (Or.inl ⟨by rfl, ?_⟩) ?_ ?_
          rotate_left
          · intro w'
            go_simp
            with_reducible rfl
          rotate_left
          · simp only [Act.put, List.setIfInBounds_toArray, List.set_cons_zero, List.set_cons_succ, i64_w, i32_w]
            rfl
          refine pure_ (i := 5) (N := some 99) (v := ?_) (a' := ?_) #[false, true, false, true, false, true, false, false, false, false, false, false, false, false, false, false, false, false, false, false, false, false, false] rfl rfl (any_of HT_.out (by kernel_rfl)) (fun _ _ _ h => h) (Or.inl ⟨by rfl, ?_⟩) ?_ ?_
          rotate_left
          · intro w'
            go_simp
            with_reducible rfl
          rotate_left
          · simp only [Act.put, List.setIfInBounds_toArray, List.set_cons_zero, List.set_cons_succ, i64_w, i32_w]
            rfl
          refine pure_ (i := 7) (N := some 101) (v := ?_) (a' := ?_) #[false, true, false, true, false, true, false, true, false, false, false, false, false, false, false, false, false, false, false, false, false, false, false] rfl rfl (any_of HT_.out (by kernel_rfl)) (fun _ _ _ h => h) (Or.inl ⟨by rfl, ?_⟩) ?_ ?_
          rotate_left
          · intro w'
            go_simp
            with_reducible rfl
          rotate_left
          · simp only [Act.put, List.setIfInBounds_toArray, List.set_cons_zero, List.set_cons_succ, i64_w, i32_w]
            rfl
          refine take_ (i := 0) (N := some 94) (v := ?_) (a' := ?_) #[true, true, false, true, false, true, false, true, false, false, false, false, false, false, false, false, false, false, false, false, false, false, false] rfl rfl (take_ofW HT_.out HW_.out (by kernel_rfl)) (fun _ _ _ h => h) (Or.inl ⟨by rfl, ?_⟩) hHeld ?_ ?_
          rotate_left
          · rintro w' ⟨s0, s1, s2, s3, s4, s5, s6, s7, s8, s9⟩
            go_simp
            with_reducible rfl
          rotate_left
          · simp only [Act.put, List.setIfInBounds_toArray, List.set_cons_zero, List.set_cons_succ, i64_w, i32_w]
            rfl
          refine take_ (i := 2) (N := some 96) (v := ?_) (a' := ?_) #[true, true, true, true, false, true, false, true, false, false, false, false, false, false, false, false, false, false, false, false, false, false, false] rfl rfl (take_ofW HT_.out HW_.out (by kernel_rfl)) (fun _ _ _ h => h) (Or.inl ⟨by rfl, ?_⟩) hHeld ?_ ?_
          rotate_left
          · rintro w' ⟨s0, s1, s2, s3, s4, s5, s6, s7, s8, s9⟩
            go_simp
            with_reducible rfl
          rotate_left
          · simp only [Act.put, List.setIfInBounds_toArray, List.set_cons_zero, List.set_cons_succ, i64_w, i32_w]
            rfl
          refine take_ (i := 4) (N := some 98) (v := ?_) (a' := ?_) #[true, true, true, true, true, true, false, true, false, false, false, false, false, false, false, false, false, false, false, false, false, false, false] rfl rfl (take_ofW HT_.out HW_.out (by kernel_rfl)) (fun _ _ _ h => h) (Or.inl ⟨by rfl, ?_⟩) hHeld ?_ ?_
          rotate_left
          · rintro w' ⟨s0, s1, s2, s3, s4, s5, s6, s7, s8, s9⟩
            go_simp
            with_reducible rfl
          rotate_left
          · simp only [Act.put, List.setIfInBounds_toArray, List.set_cons_zero, List.set_cons_succ, i64_w, i32_w]
            rfl
          refine take_ (i := 6) (N := some 100) (v := ?_) (a' := ?_) #[true, true, true, true, true, true, true, true, false, false, false, false, false, false, false, false, false, false, false, false, false, false, false] rfl rfl (take_ofW HT_.out HW_.out (by kernel_rfl)) (fun _ _ _ h => h) (Or.inl ⟨by rfl, ?_⟩) hHeld ?_ ?_
          rotate_left
          · rintro w' ⟨s0, s1, s2, s3, s4, s5, s6, s7, s8, s9⟩
            go_simp
            with_reducible rfl
          rotate_left
          · simp only [Act.put, List.setIfInBounds_toArray, List.set_cons_zero, List.set_cons_succ, i64_w, i32_w]
            rfl
          refine take_ (i := 8) (N := some 102) (v := ?_) (a' := ?_) #[true, true, true, true, true, true, true, true, true, false, false, false, false, false, false, false, false, false, false, false, false, false, false] rfl rfl (take_ofW HT_.out HW_.out (by kernel_rfl)) (fun _ _ _ h => h) (Or.inl ⟨by rfl, ?_⟩) hHeld ?_ ?_
          rotate_left
          · rintro w' ⟨s0, s1, s2, s3, s4, s5, s6, s7, s8, s9⟩
            go_simp
            with_reducible rfl
          rotate_left
          · simp only [Act.put, List.setIfInBounds_toArray, List.set_cons_zero, List.set_cons_succ, i64_w, i32_w]
            rfl
          refine pure_ (i := 9) (N := some 103) (v := ?_) (a' := ?_) #[true, true, true, true, true, true, true, true, true, true, false, false, false, false, false, false, false, false, false, false, false, false, false] rfl rfl (any_of HT_.out (by kernel_rfl)) (fun _ _ _ h => h) (Or.inl ⟨by rfl, ?_⟩) ?_ ?_
          rotate_left
          · intro w'
            go_simp
            with_reducible rfl
          rotate_left
          · simp only [Act.put, List.setIfInBounds_toArray, List.set_cons_zero, List.set_cons_succ, i64_w, i32_w]
            rfl
          refine one_ (i := 10) (N := some 104) #[true, true, true, true, true, true, true, true, true, true, true, false, false, false, false, false, false, false, false, false, false, false, false] rfl rfl (one_of HT_.out (by kernel_rfl)) (by decide) (fun K hK => ?_)
          refine goes_ Try.func21 (by kernel_rfl) rfl #[.agg #[.int .i64 x, .int .i64 a0_0, .slice A5 m.length c5, .slice A6 p.length c6], .agg #[.int .i64 x, .int .i64 a0_0, .slice A4 m.length c4, .slice A3 p.length c3]] (by rfl) rfl rfl (by (try simp only [List.map_toArray, List.map_cons, List.map_nil]); first | done | rfl) ?_
          refine (s_samer x a0_0 m p _ _ rfl rfl (by have := HLL.out.2.2.2; omega) (by have := HLL.out.2.2.1; omega) _ _ _ _ _ _ _ _ _ (PAll.Ints.below I5.out HB5.out) (PAll.Ints.below I6.out HB5.out) (PAll.Ints.below I4.out HB5.out) (PAll.Ints.below I3.out HB5.out)).mono ?_
          rintro e w135 ⟨rfl, hb⟩
          refine ⟨_, rfl, ?_⟩
          replace HB5 := Aside0.mk (HB5.out.trans (hb.mono HB5.out.size))
          clear hb
          refine hK.out _ _ ⟨blk_cell (blk_below X10.out HB5.out) 0, blk_cell (blk_below X10.out HB5.out) 1, blk_cell (blk_below X10.out HB5.out) 2, blk_cell (blk_below X10.out HB5.out) 3, blk_cell (blk_below X9.out HB5.out) 0, blk_cell (blk_below X9.out HB5.out) 1, blk_cell (blk_below X9.out HB5.out) 2, blk_cell (blk_below X9.out HB5.out) 3, (HS.out.on HB5.out).x0, (HS.out.on HB5.out).x1⟩ (fun hHeld => ?_)
          clear hK K
          refine norm_ (a' := ?_) ?_ ?_
          rotate_left
          · show Act.put _ (some 104) _ = _
            simp only [Act.put, List.setIfInBounds_toArray, List.set_cons_zero, List.set_cons_succ, i64_w, i32_w]
            rfl
          refine pure_ (i := 11) (N := some 105) (v := ?_) (a' := ?_) #[true, true, true, true, true, true, true, true, true, true, true, true, false, false, false, false, false, false, false, false, false, false, false] rfl rfl (any_of HT_.out (by kernel_rfl)) (fun _ _ _ h => h) (Or.inl ⟨by rfl, ?_⟩) ?_ ?_
          rotate_left
          · intro w'
            go_simp
            with_reducible rfl
          rotate_left
          · simp only [Act.put, List.setIfInBounds_toArray, List.set_cons_zero, List.set_cons_succ, i64_w, i32_w]
            rfl
          refine pure_ (i := 15) (N := some 109) (v := ?_) (a' := ?_) #[true, true, true, true, true, true, true, true, true, true, true, true, false, false, false, true, false, false, false, false, false, false, false] rfl rfl (any_of HT_.out (by kernel_rfl)) (fun _ _ _ h => h) (Or.inl ⟨by rfl, ?_⟩) ?_ ?_
          rotate_left
          · intro w'
            go_simp
            with_reducible rfl
          rotate_left
          · simp only [Act.put, List.setIfInBounds_toArray, List.set_cons_zero, List.set_cons_succ, i64_w, i32_w]
            rfl
          refine pure_ (i := 17) (N := some 111) (v := ?_) (a' := ?_) #[true, true, true, true, true, true, true, true, true, true, true, true, false, false, false, true, false, true, false, false, false, false, false] rfl rfl (any_of HT_.out (by kernel_rfl)) (fun _ _ _ h => h) (Or.inl ⟨by rfl, ?_⟩) ?_ ?_
          rotate_left
          · intro w'
            go_simp
            with_reducible rfl
          rotate_left
          · simp only [Act.put, List.setIfInBounds_toArray, List.set_cons_zero, List.set_cons_succ, i64_w, i32_w]
            rfl
          refine take_ (i := 12) (N := some 106) (v := ?_) (a' := ?_) #[true, true, true, true, true, true, true, true, true, true, true, true, true, false, false, true, false, true, false, false, false, false, false] rfl rfl (take_ofW HT_.out HW_.out (by kernel_rfl)) (fun _ _ _ h => h) (Or.inl ⟨by rfl, ?_⟩) hHeld ?_ ?_
          rotate_left
          · rintro w' ⟨s0, s1, s2, s3, s4, s5, s6, s7, s8, s9⟩
            go_simp
            with_reducible rfl
          rotate_left
          · simp only [Act.put, List.setIfInBounds_toArray, List.set_cons_zero, List.set_cons_succ, i64_w, i32_w]
            rfl
          refine take_ (i := 13) (N := some 107) (v := ?_) (a' := ?_) #[true, true, true, true, true, true, true, true, true, true, true, true, true, true, false, true, false, true, false, false, false, false, false] rfl rfl (take_ofW HT_.out HW_.out (by kernel_rfl)) (fun _ _ _ h => h) (Or.inl ⟨by rfl, ?_⟩) hHeld ?_ ?_
          rotate_left
          · rintro w' ⟨s0, s1, s2, s3, s4, s5, s6, s7, s8, s9⟩
            go_simp
            with_reducible rfl
          rotate_left
          · simp only [Act.put, List.setIfInBounds_toArray, List.set_cons_zero, List.set_cons_succ, i64_w, i32_w]
            rfl
          refine take_ (i := 16) (N := some 110) (v := ?_) (a' := ?_) #[true, true, true, true, true, true, true, true, true, true, true, true, true, true, false, true, true, true, false, false, false, false, false] rfl rfl (take_ofW HT_.out HW_.out (by kernel_rfl)) (fun _ _ _ h => h) (Or.inl ⟨by rfl, ?_⟩) hHeld ?_ ?_
          rotate_left
          · rintro w' ⟨s0, s1, s2, s3, s4, s5, s6, s7, s8, s9⟩
            go_simp
            with_reducible rfl
          rotate_left
          · simp only [Act.put, List.setIfInBounds_toArray, List.set_cons_zero, List.set_cons_succ, i64_w, i32_w]
            rfl
          refine take_ (i := 18) (N := some 112) (v := ?_) (a' := ?_) #[true, true, true, true, true, true, true, true, true, true, true, true, true, true, false, true, true, true, true, false, false, false, false] rfl rfl (take_ofW HT_.out HW_.out (by kernel_rfl)) (fun _ _ _ h => h) (Or.inl ⟨by rfl, ?_⟩) hHeld ?_ ?_
          rotate_left
          · rintro w' ⟨s0, s1, s2, s3, s4, s5, s6, s7, s8, s9⟩
            go_simp
            with_reducible rfl
          rotate_left
          · simp only [Act.put, List.setIfInBounds_toArray, List.set_cons_zero, List.set_cons_succ, i64_w, i32_w]
            rfl
          refine pure_ (i := 19) (N := some 113) (v := ?_) (a' := ?_) #[true, true, true, true, true, true, true, true, true, true, true, true, true, true, false, true, true, true, true, true, false, false, false] rfl rfl (any_of HT_.out (by kernel_rfl)) (fun _ _ _ h => h) (Or.inl ⟨by rfl, ?_⟩) ?_ ?_
          rotate_left
          · intro w'
            go_simp
            with_reducible rfl
          rotate_left
          · simp only [Act.put, List.setIfInBounds_toArray, List.set_cons_zero, List.set_cons_succ, i64_w, i32_w]
            rfl
          refine one_ (i := 14) (N := some 108) #[true, true, true, true, true, true, true, true, true, true, true, true, true, true, true, true, true, true, true, true, false, false, false] rfl rfl (one_of HT_.out (by kernel_rfl)) (by decide) (fun K hK => ?_)
          refine goes_ Try.func22 (by kernel_rfl) rfl #[.agg #[.int .i64 x, .slice Ax q.length cx], .agg #[.int .i64 x, .slice Ax q.length cx]] (by rfl) rfl rfl (by (try simp only [List.map_toArray, List.map_cons, List.map_nil]); first | done | rfl) ?_
          refine (s_self x q HLN.out.2 _ _ _ ((HS.out.on HB5.out).xl.ints (HS.out.on HB5.out).below)).mono ?_
          rintro e w136 ⟨A7, c7, A8, c8, rfl, h7, h8, hb⟩
          refine ⟨_, rfl, ?_⟩
          have I7 := Aside0.mk h7
          have I8 := Aside0.mk h8
          clear h7 h8
          replace HB5 := Aside0.mk (HB5.out.trans (hb.mono HB5.out.size))
          clear hb
          refine hK.out _ _ ⟨blk_cell (blk_below X10.out HB5.out) 0, blk_cell (blk_below X10.out HB5.out) 1, blk_cell (blk_below X10.out HB5.out) 2, blk_cell (blk_below X10.out HB5.out) 3, blk_cell (blk_below X9.out HB5.out) 0, blk_cell (blk_below X9.out HB5.out) 1, blk_cell (blk_below X9.out HB5.out) 2, blk_cell (blk_below X9.out HB5.out) 3, (HS.out.on HB5.out).x0, (HS.out.on HB5.out).x1⟩ (fun hHeld => ?_)
          clear hK K
          refine norm_ (a' := ?_) ?_ ?_
          rotate_left
          · show Act.put _ (some 108) _ = _
            simp only [Act.put, List.setIfInBounds_toArray, List.set_cons_zero, List.set_cons_succ, i64_w, i32_w]
            rfl
          refine one_ (i := 20) (N := some 114) #[true, true, true, true, true, true, true, true, true, true, true, true, true, true, true, true, true, true, true, true, true, false, false] rfl rfl (one_of HT_.out (by kernel_rfl)) (by decide) (fun K hK => ?_)
          refine goes_ Try.func21 (by kernel_rfl) rfl #[.agg #[.int .i64 x, .int .i64 x, .slice A7 0 c7, .slice A8 0 c8], .agg #[.int .i64 x, .int .i64 x, .slice none 0 0, .slice none 0 0]] (by rfl) rfl rfl (by (try simp only [List.map_toArray, List.map_cons, List.map_nil]); first | done | rfl) ?_
          refine (s_samer x x [] [] 0 0 rfl rfl (by decide) (by decide) _ _ _ _ _ _ _ _ _ I7.out I8.out (PAll.Ints.nil _) (PAll.Ints.nil _)).mono ?_
          rintro e w137 ⟨rfl, hb⟩
          refine ⟨_, rfl, ?_⟩
          replace HB5 := Aside0.mk (HB5.out.trans (hb.mono HB5.out.size))
          clear hb
          refine hK.out _ _ ⟨blk_cell (blk_below X10.out HB5.out) 0, blk_cell (blk_below X10.out HB5.out) 1, blk_cell (blk_below X10.out HB5.out) 2, blk_cell (blk_below X10.out HB5.out) 3, blk_cell (blk_below X9.out HB5.out) 0, blk_cell (blk_below X9.out HB5.out) 1, blk_cell (blk_below X9.out HB5.out) 2, blk_cell (blk_below X9.out HB5.out) 3, (HS.out.on HB5.out).x0, (HS.out.on HB5.out).x1⟩ (fun hHeld => ?_)
          clear hK K
          refine norm_ (a' := ?_) ?_ ?_
          rotate_left
          · show Act.put _ (some 114) _ = _
            simp only [Act.put, List.setIfInBounds_toArray, List.set_cons_zero, List.set_cons_succ, i64_w, i32_w]
            rfl
          refine pure_ (i := 21) (N := some 115) (v := ?_) (a' := ?_) #[true, true, true, true, true, true, true, true, true, true, true, true, true, true, true, true, true, true, true, true, true, true, false] rfl rfl (any_of HT_.out (by kernel_rfl)) (fun _ _ _ h => h) (Or.inl ⟨by rfl, ?_⟩) ?_ ?_
          rotate_left
          · intro w'
            go_simp
            with_reducible rfl
          rotate_left
          · simp only [Act.put, List.setIfInBounds_toArray, List.set_cons_zero, List.set_cons_succ, i64_w, i32_w]
            rfl
          refine pure_ (i := 22) (N := some 4) (v := ?_) (a' := ?_) #[true, true, true, true, true, true, true, true, true, true, true, true, true, true, true, true, true, true, true, true, true, true, true] rfl rfl (any_of HT_.out (by kernel_rfl)) (fun _ _ _ h => h) (Or.inl ⟨by rfl, ?_⟩) ?_ ?_
          rotate_left
          · intro w'
            go_simp
            with_reducible rfl
          rotate_left
          · simp only [Act.put, List.setIfInBounds_toArray, List.set_cons_zero, List.set_cons_succ, i64_w, i32_w]
            rfl
          refine done_ (done_of HT_.out (by kernel_rfl)) ?_
          try go_wp2
          go_ret
          exact ⟨rfl, HS.out.below.trans (HB5.out.mono HS.out.below.size)⟩
end Go.Proofs.Ytedjibjmbgllkaa.PHand
namespace Go.Proofs.Ytedjibjmbgllkaa.Pure
theorem RevokeSteps (v : Int) (l : List Int) (s : List PAll.S44) : PHand.skiarealaw27_RevokeSteps.f v l s = some true := rfl
end Go.Proofs.Ytedjibjmbgllkaa.Pure
