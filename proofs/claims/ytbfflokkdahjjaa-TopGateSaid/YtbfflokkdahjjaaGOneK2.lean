/- The reference's Right of one product of one kind: whatever it returns, 0 only for products whose season, kind and lists are in bounds. -/
import Derived.Test.YtbfflokkdahjjaaGOne22
namespace Go.Proofs.Ytbfflokkdahjjaa.PV
open Go.RowKit Go.Proofs.Ytbfflokkdahjjaa.PAll Go.Proofs.Ytbfflokkdahjjaa.Pure Go.Proofs.YtbfflokkdahjjaaW.PrintWords Go.Proofs.YtbfflokkdahjjaaW.PrintLast Go.Proofs.YtbfflokkdahjjaaW.PrintMore
set_option linter.unusedVariables false
set_option linter.unusedSimpArgs false
set_option maxHeartbeats 40000000 in
set_option maxRecDepth 100000 in
theorem one_k2 (p : S40) (A : Option Addr) (c : Nat) (B : Option Addr) (d : Nat) (l : List (S40)) (L : Option Addr) (cl : Nat) (w : World) (h : PR0 w p A c B d) (hC : Kd.C k40 w L l.length l) (hc : l.length ≤ cl) (hf : first22 p) (hk : p.f1 = 2) :
    Calls Try.prog 16 #[.agg #[.int .i64 p.f0, .int .i64 p.f1, .int .i64 p.f2, .int .i64 p.f3, .int .i64 p.f4, .slice A p.f5.length c, .slice B p.f6.length d, .int .i64 p.f7.f0, .int .i64 p.f7.f1, .int .i64 p.f8], .slice L l.length cl] w fun e w' => (∃ r : Int, e = .returned (.int .i64 r) ∧ (r = 0 → good p)) ∧ Below w.heap.size w w' := by
  have hu := Try.underlying40
  have HPR := Aside0.mk h
  have HC := Aside0.mk hC
  have hmax := Kd.C_max hC
  have hP := Aside0.mk (At.new w #[.int .i64 p.f0, .int .i64 p.f1, .int .i64 p.f2, .int .i64 p.f3, .int .i64 p.f4, .slice A p.f5.length c, .slice B p.f6.length d, .int .i64 p.f7.f0, .int .i64 p.f7.f1, .int .i64 p.f8] 40 w.heap.size rfl)
  have HB := Aside0.mk (below_alloc (Below.refl w.heap.size w) (.cells #[.int .i64 p.f0, .int .i64 p.f1, .int .i64 p.f2, .int .i64 p.f3, .int .i64 p.f4, .slice A p.f5.length c, .slice B p.f6.length d, .int .i64 p.f7.f0, .int .i64 p.f7.f1, .int .i64 p.f8] 40))
  have HF := Aside0.mk hf
  obtain ⟨f1, f2, f3, f4, f5, f6, f7, f8, f9, f10, f11⟩ := hf
  obtain ⟨most, hmost⟩ : ∃ x : Int, x = if p.f1 = 0 then 604800 else 100 := ⟨_, rfl⟩
  rw [← hmost] at f5
  have b1 : (p.f1 == 0) = decide (p.f1 = 0) := rfl
  obtain ⟨bh, h16, hH⟩ := hours_c B d p.f6 w h.C6 h.c6
  have HH := Aside0.mk (And.intro h16 hH)
  clear h hC h16 hH
  have k0 : (p.f1 = 0 ∧ most = 604800) ∨ (¬ p.f1 = 0 ∧ most = 100) := by
    by_cases c : p.f1 = 0
    · exact .inl ⟨c, by rw [hmost, if_pos c]⟩
    · exact .inr ⟨c, by rw [hmost, if_neg c]⟩
  clear hmost
  clear f3
  have f3 := hk
  all_goals
    rcases k0 with ⟨k1, rfl⟩ | ⟨k1, rfl⟩
    all_goals try (exfalso; omega)
  all_goals
    go_enter Try.func16, Try.ntmps16
    go_wp2
  all_goals
    go_loopg [6] l.length (fun gg s6 wr => ∃ k : Nat, k ≤ l.length ∧ l.length - k ≤ gg ∧ s6 = .int .i64 (k : Int) ∧ Aside0 (Below w.heap.size w wr) ∧ Aside0 (At wr w.heap.size (#[.int .i64 p.f0, .int .i64 p.f1, .int .i64 p.f2, .int .i64 p.f3, .int .i64 p.f4, .slice A p.f5.length c, .slice B p.f6.length d, .int .i64 p.f7.f0, .int .i64 p.f7.f1, .int .i64 p.f8]).toList))
    case atStart => exact ⟨0, Nat.zero_le _, by omega, rfl, ⟨below_alloc (Below.refl _ _) _⟩, ⟨by have h := hP.out; rw [f3] at h ⊢; exact h⟩⟩
    case round =>
      obtain ⟨k, hk, hg, rfl, BW, hQ⟩ := hrel
      by_cases hlt : k < l.length
      · have hltz : (k : Int) < (l.length : Int) := by omega
        obtain ⟨ad, A5, c5, A6, c6, rfl, hx0, _⟩ := at_T40 (Kd.C_below HC.out BW.out) (k : Int) (by omega) (by omega)
        rw [Int.toNat_natCast] at hx0
        obtain ⟨q, hq⟩ : ∃ q, q = (rd_T40 l (k : Int)).f0 := ⟨_, rfl⟩
        rw [← hq] at hx0
        clear hq
        have zQ0 := hQ.out 0 _ rfl
        go_wp2
        all_goals try (go_quiet (skip); try go_wp2)
        · go_ret
          exact ⟨⟨7, rfl, fun h => by simp at h⟩, BW.out.trans ((Drawn0.below ⟨⟨_, rfl⟩⟩).mono BW.out.size)⟩
        · go_roundg (l.length - (k + 1))
          case measure => omega
          case rel => exact ⟨k + 1, by omega, by omega, by go_num, ⟨BW.out.trans ((Drawn0.below ⟨⟨_, rfl⟩⟩).mono BW.out.size)⟩, ⟨hQ.out.drewN _⟩⟩
      · have hltz : ¬ (k : Int) < (l.length : Int) := by omega
        have zhQ0 := hQ.out 0 _ rfl; have zhQ1 := hQ.out 1 _ rfl; have zhQ2 := hQ.out 2 _ rfl; have zhQ3 := hQ.out 3 _ rfl; have zhQ4 := hQ.out 4 _ rfl; have zhQ5 := hQ.out 5 _ rfl; have zhQ6 := hQ.out 6 _ rfl; have zhQ7 := hQ.out 7 _ rfl; have zhQ8 := hQ.out 8 _ rfl; have zhQ9 := hQ.out 9 _ rfl
        go_wp2_with (go_at_call 28; refine (HH.out.2 _ (Kd.C_below HPR.out.C6 BW.out)).mono ?_; rintro e w2 ⟨rfl, hd⟩; have hb := hd.below; have hQ := Aside0.mk (hQ.out.below hb); have BW := Aside0.mk (BW.out.trans (hb.mono BW.out.size)); clear hb hd; have zhQ0 := hQ.out 0 _ rfl; have zhQ1 := hQ.out 1 _ rfl; have zhQ2 := hQ.out 2 _ rfl; have zhQ3 := hQ.out 3 _ rfl; have zhQ4 := hQ.out 4 _ rfl; have zhQ5 := hQ.out 5 _ rfl; have zhQ6 := hQ.out 6 _ rfl; have zhQ7 := hQ.out 7 _ rfl; have zhQ8 := hQ.out 8 _ rfl; have zhQ9 := hQ.out 9 _ rfl)
        all_goals try (go_ret; exact ⟨⟨_, rfl, fun h => by simp at h⟩, BW.out⟩)
        all_goals
          have q1 : decide (p.f4 < p.f3) = false := decide_eq_false (by omega)
          have q2 : (((p.f5.length : Nat) : Int) == 0) = false := by
            rw [beq_eq_false_iff_ne]
            intro h
            have h2 : p.f5 = [] := List.eq_nil_of_length_eq_zero (by omega)
            contradiction
          have q3 : decide (p.f7.f0 < 0) = false := decide_eq_false (by omega)
          have q4 : decide (p.f7.f1 ≤ p.f7.f0) = false := decide_eq_false (by omega)
          have q5 : decide (20000000 < p.f7.f1) = false := decide_eq_false (by omega)
          simp only [q1, q2, q3, q4, q5, Bool.false_or, Bool.or_false]
          go_loopg [7] p.f5.length (fun gg s7 wr => ∃ k : Nat, k ≤ p.f5.length ∧ p.f5.length - k ≤ gg ∧ s7 = .int .i64 (k : Int) ∧ Aside0 (Below w.heap.size w wr) ∧ Aside0 (At wr w.heap.size (#[.int .i64 p.f0, .int .i64 p.f1, .int .i64 p.f2, .int .i64 p.f3, .int .i64 p.f4, .slice A p.f5.length c, .slice B p.f6.length d, .int .i64 p.f7.f0, .int .i64 p.f7.f1, .int .i64 p.f8]).toList) ∧ Aside0 (ups p.f5 k))
          case atStart => exact ⟨0, Nat.zero_le _, by omega, rfl, BW, hQ, ⟨ups_zero _⟩⟩
          case round =>
            obtain ⟨k, hk, hg, rfl, BW, hQ, HU⟩ := hrel
            have hmx := Kd.C_max HPR.out.C5
            by_cases hlt : k < p.f5.length
            · have hltz : (k : Int) < (p.f5.length : Int) := by omega
              have hk8 := ups_le HU.out
              obtain ⟨ad, hA, hx0⟩ := Kd.at_int (Kd.C_below HPR.out.C5 BW.out) (k : Int) (by omega) (by omega)
              obtain ⟨i, hi⟩ : ∃ i : Nat, i = k - 1 := ⟨_, rfl⟩
              have HI := Aside0.mk hi
              clear hi
              have zhQ0 := hQ.out 0 _ rfl; have zhQ1 := hQ.out 1 _ rfl; have zhQ2 := hQ.out 2 _ rfl; have zhQ3 := hQ.out 3 _ rfl; have zhQ4 := hQ.out 4 _ rfl; have zhQ5 := hQ.out 5 _ rfl; have zhQ6 := hQ.out 6 _ rfl; have zhQ7 := hQ.out 7 _ rfl; have zhQ8 := hQ.out 8 _ rfl; have zhQ9 := hQ.out 9 _ rfl
              rw [Int.toNat_natCast] at hx0
              obtain ⟨v, hv⟩ : ∃ v, v = rd p.f5 (k : Int) := ⟨_, rfl⟩
              rw [← hv] at hx0
              have HV := Aside0.mk hv
              clear hv
              subst hA
              have bad : ∀ (P : Prop) (n : Nat), (Below w.heap.size w (wr.drewN n)) := fun _ n => BW.out.trans ((Drawn0.below ⟨⟨n, rfl⟩⟩).mono BW.out.size)
              have BAD := Aside0.mk bad
              clear bad
              by_cases c1 : v < 1
              · have d1 : decide (v < 1) = true := decide_eq_true c1
                clear c1
                go_wp2
                all_goals try (go_quiet (skip); try go_wp2)
                all_goals (go_ret; exact ⟨⟨1, rfl, fun h => by simp at h⟩, BAD.out True _⟩)
              · have C1 := Aside0.mk c1
                have d1 : decide (v < 1) = false := decide_eq_false c1
                clear c1
                by_cases c2 : 8 < v
                · have d2 : decide (8 < v) = true := decide_eq_true c2
                  clear c2
                  go_wp2
                  all_goals try (go_quiet (skip); try go_wp2)
                  all_goals (go_ret; exact ⟨⟨1, rfl, fun h => by simp at h⟩, BAD.out True _⟩)
                · have C2 := Aside0.mk c2
                  have d2 : decide (8 < v) = false := decide_eq_false c2
                  clear c2
                  rcases Nat.eq_zero_or_pos k with hk0 | hk0
                  · have hkz : decide ((0 : Int) < (k : Int)) = false := decide_eq_false (by omega)
                    have hkn : decide (0 < k) = false := decide_eq_false (by omega)
                    have HK0 := Aside0.mk hk0
                    clear hk0
                    go_wp2
                    all_goals try (go_quiet (skip); try go_wp2)
                    all_goals
                      go_roundg (p.f5.length - (k + 1))
                      case measure => omega
                      case rel => exact ⟨k + 1, by omega, by omega, by go_num, ⟨BAD.out True _⟩, ⟨hQ.out.drewN _⟩, ⟨ups_next HU.out hlt (by rw [← HV.out]; have := C2.out; omega) (by rw [← HV.out]; have := C1.out; omega) (fun h => by have := HK0.out; omega)⟩⟩
                  · have hkz : decide ((0 : Int) < (k : Int)) = true := decide_eq_true (by omega)
                    have hkn : decide (0 < k) = true := decide_eq_true (by omega)
                    have hw1 : wrap64 ((k : Int) - 1) = (i : Int) := by have := HI.out; unfold wrap64; omega
                    have hw2 : IntKind.i64.wrap ((k : Int) - 1) = (i : Int) := by first | (rw [i64_w]; exact hw1) | exact hw1
                    have hil : (i : Int) < (p.f5.length : Int) := by have := HI.out; omega
                    obtain ⟨ad', hA', hx1⟩ := Kd.at_int (Kd.C_below HPR.out.C5 BW.out) (i : Int) (by omega) (by omega)
                    obtain rfl : ad = ad' := by injection hA'
                    rw [Int.toNat_natCast] at hx1
                    obtain ⟨v', hv'⟩ : ∃ v, v = rd p.f5 (i : Int) := ⟨_, rfl⟩
                    rw [← hv'] at hx1
                    have HV' := Aside0.mk (show v' = rd p.f5 ((k - 1 : Nat) : Int) from by rw [hv', HI.out])
                    have HK0 := Aside0.mk hk0
                    clear hv' hA' hk0
                    by_cases c3 : v ≤ v'
                    · have d3 : decide (v ≤ v') = true := decide_eq_true c3
                      clear c3
                      go_wp2
                      all_goals try (go_quiet (skip); try go_wp2)
                      all_goals (go_ret; exact ⟨⟨1, rfl, fun h => by simp at h⟩, BAD.out True _⟩)
                    · have C3 := Aside0.mk c3
                      have d3 : decide (v ≤ v') = false := decide_eq_false c3
                      clear c3
                      go_wp2
                      all_goals try (go_quiet (skip); try go_wp2)
                      all_goals
                        go_roundg (p.f5.length - (k + 1))
                        case measure => omega
                        case rel => exact ⟨k + 1, by omega, by omega, by go_num, ⟨BAD.out True _⟩, ⟨hQ.out.drewN _⟩, ⟨ups_next HU.out hlt (by rw [← HV.out]; have := C2.out; omega) (by rw [← HV.out]; have := C1.out; omega) (fun h => by rw [← HV.out, ← HV'.out]; have := C3.out; omega)⟩⟩
            · have hltz : ¬ (k : Int) < (p.f5.length : Int) := by omega
              obtain rfl : k = p.f5.length := by omega
              have zhQ0 := hQ.out 0 _ rfl; have zhQ1 := hQ.out 1 _ rfl; have zhQ2 := hQ.out 2 _ rfl; have zhQ3 := hQ.out 3 _ rfl; have zhQ4 := hQ.out 4 _ rfl; have zhQ5 := hQ.out 5 _ rfl; have zhQ6 := hQ.out 6 _ rfl; have zhQ7 := hQ.out 7 _ rfl; have zhQ8 := hQ.out 8 _ rfl; have zhQ9 := hQ.out 9 _ rfl
              go_wp2
              all_goals
                go_ret
                exact ⟨⟨0, rfl, fun _ => ⟨⟨by omega, by omega, by omega⟩, by omega, ups_len HU.out, HH.out.1 (by assumption)⟩⟩, BW.out⟩
end Go.Proofs.Ytbfflokkdahjjaa.PV
