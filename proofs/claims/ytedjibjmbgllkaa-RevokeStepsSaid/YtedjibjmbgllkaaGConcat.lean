/- slices.Concat at []int: the lists one behind the other, in new memory; bounds on their lengths. -/
import Derived.Test.YtedjibjmbgllkaaPAllx0
import Derived.Test.YtedjibjmbgllkaaGHelp
import Derived.Test.YtedjibjmbgllkaaShelf
import Derived.Lib.AppendZerosOnto
namespace Go.Proofs.Ytedjibjmbgllkaa.PAll
open Go.RowKit Go.Proofs.YtedjibjmbgllkaaW.PrintWords Go.Proofs.YtedjibjmbgllkaaW.PrintLast Go.Proofs.YtedjibjmbgllkaaW.PrintMore
set_option linter.unusedVariables false
set_option linter.unusedSimpArgs false
theorem at_row {w : World} {A : Option Addr} {n : Nat} {ls : List (List Int)} (h : (Kd.slice 3 (Kd.int .i64)).C w A n ls) (i : Nat) (hi : i < ls.length) (hn : 0 < n) :
    ∃ ad B c, A = some ad ∧ w.cell? (ad.add i) = some (.slice B (ls[i]).length c) ∧ (ls[i]).length ≤ c ∧ Kd.C (Kd.int .i64) w B (ls[i]).length ls[i] := by
  obtain ⟨_, _, h⟩ := h
  obtain ⟨a, rfl, hj⟩ := h hn
  obtain ⟨cs', hl, hk, hc⟩ := hj i ls[i] (by simp [hi])
  obtain ⟨B, c, rfl, hlc, hC⟩ := hk
  have := hc 0 _ rfl
  simp only [Kd.slice, Nat.mul_one, Nat.add_zero] at this
  exact ⟨a, B, c, rfl, this, hlc, hC⟩
set_option maxHeartbeats 1000000 in
theorem grow_nil (n : Nat) (w : World) (base : Nat) (hb : base ≤ w.heap.size) (hn : n ≤ 1000000000) :
    Calls Try.prog 43 #[.slice none 0 0, .int .i64 (n : Int)] w fun e w' => ∃ v, e = .returned v ∧ w'.ownsRow base 3 1 v 0 [] ∧ Below base w w' := by
  have h1 : ¬ ((n : Int) < 0) := by omega
  have h2 : wrap64 ((0 : Int) - 0) = 0 := by unfold wrap64; omega
  have h3 : wrap64 ((n : Int) - 0) = (n : Int) := by unfold wrap64; omega
  rcases Nat.eq_zero_or_pos n with h0 | h0
  · subst h0
    go_enter Try.func43, Try.ntmps43
    go_wp2
    go_ret
    exact ⟨_, rfl, ⟨rfl, .inl ⟨rfl, rfl⟩⟩, Below.refl _ _⟩
  · have h4 : (n : Int) > 0 := by omega
    obtain ⟨i0, hi0, hzz⟩ := Option.map_eq_some_iff.1 info3
    simp only [Prod.mk.injEq] at hzz
    obtain ⟨hz0, hz1, hz2⟩ := hzz
    have hrz : ∀ ty, (Builtin.append_ #[22, 3] ty #[.slice none 0 0, .int .i64 (n : Int)]).run Try.prog w =
        .ok (.slice (some ⟨w.heap.size, 0, none⟩) (0 + n) (grownCap w (0 + n) 0 3)) (w.drew.alloc (.cells (#[] ++ Builtin.zeroCells (Value.int .i64 0).cells n ++ Builtin.zeroCells (Value.int .i64 0).cells (grownCap w (0 + n) 0 3 - (0 + n))) 3)) := fun ty =>
      Lib.run_append_grow_zeros w 22 3 ty 3 i0 (.int .i64 0) .i64 .i64 Try.underlying22 Try.underlying3 hi0 hz0 none 0 0 [] (run_firstCells_none w.drew i0.size 0 0 0) n h0 (by omega) (by omega) (by omega) (by rw [hz2]; omega)
        (by rw [hz2]; exact growslice_fits (by omega) (by omega))
    have hGn : 0 + n ≤ grownCap w (0 + n) 0 3 := grownCap_ge w _ _ _
    have hGm := grownCap_le_maxLen w (0 + n) 0 3 (by unfold maxLen; omega)
    obtain ⟨G, hG⟩ : ∃ G, G = grownCap w (0 + n) 0 3 := ⟨_, rfl⟩
    rw [← hG] at hrz hGn hGm
    have hG63 : G ≤ 9223372036854775807 := by unfold maxLen at hGm; omega
    clear hG
    have HM := Aside0.mk hGm
    clear hGm
    go_enter Try.func43, Try.ntmps43
    go_wp2_with (at_builtin; refine Lib.wpList_append_run _ rfl _ _ _ _ rfl _ _ rfl rfl _ _ (hrz _) ?_)
    all_goals
      go_ret
      refine ⟨_, rfl, ⟨rfl, .inr ⟨w.heap.size, G, _, rfl, hb, blk_new w.drew _, Nat.zero_le _, HM.out, ?_, rfl⟩⟩, ?_⟩
      · have e1 : (Builtin.zeroCells #[Value.int .i64 0] n).size = n := by simp [Builtin.zeroCells]
        have e2 : (Builtin.zeroCells #[Value.int .i64 0] (G - n)).size = G - n := by simp [Builtin.zeroCells]
        have e3 : ∀ a b : Array Value, a.size = n → b.size = G - n → (a ++ b).size = G * 1 := fun a b ha hb => by rw [Array.size_append, ha, hb]; omega
        exact e3 _ _ e1 e2
      · exact (below_drew1 (below_alloc (Below.refl _ _) _)).mono hb
def slices_Concat_int_int.f (l0 : List (List Int)) : Option (List Int) := if l0.length ≤ 1000000 ∧ l0.flatten.length ≤ 1000000000 then some l0.flatten else none
theorem wrap_sum {a b : Nat} (h : a + b ≤ 1000000000) : wrap64 ((a : Int) + (b : Int)) = (a : Int) + (b : Int) := by unfold wrap64; omega
theorem flat_take (l : List (List Int)) (k : Nat) (h : k < l.length) : (l.take (k + 1)).flatten = (l.take k).flatten ++ l[k] := by
  rw [List.take_succ_eq_append_getElem h, List.flatten_append]
  simp
theorem flat_le (l : List (List Int)) (k : Nat) : (l.take k).flatten.length ≤ l.flatten.length := by
  conv => rhs; rw [← List.take_append_drop k l, List.flatten_append, List.length_append]
  omega
set_option maxHeartbeats 1000000 in
theorem slices_Concat_int_int.calls (A0 : Option Addr) (c0 : Nat) (l0 : List (List Int)) (r : List Int) (w : World) (hr0 : Kd.C (Kd.slice 3 (Kd.int .i64)) w A0 l0.length l0) (hc0 : l0.length ≤ c0) (h : slices_Concat_int_int.f l0 = some r) :
    Calls Try.prog 31 #[.slice A0 l0.length c0] w fun e w' => ∃ v0_ : Value, e = .returned (v0_) ∧ Kd.R (Kd.int .i64) 3 w' w.heap.size (fun _ => True) v0_ r ∧ Below w.heap.size w w' := by
  unfold slices_Concat_int_int.f at h
  split at h
  · rename_i hf
    injection h with h
    subst h
    obtain ⟨hn, htot⟩ := hf
    have HC := Aside0.mk hr0
    have HT := Aside0.mk htot
    clear hr0 hc0 htot
    go_enter Try.func31, Try.ntmps31
    go_wp2
    go_loopg [3, 5, 11] l0.length (fun gg s3 _ s11 wr => ∃ k : Nat, k ≤ l0.length ∧ l0.length - k ≤ gg ∧ s3 = .int .i64 ((l0.take k).flatten.length : Int) ∧ s11 = .int .i64 (k : Int) ∧ Aside0 (Below w.heap.size w wr))
    case atStart => exact ⟨0, Nat.zero_le _, by omega, rfl, rfl, ⟨Below.refl _ _⟩⟩
    case round =>
      obtain ⟨k, hk, hg, rfl, rfl, HB⟩ := hrel
      by_cases hlt : k < l0.length
      · have hltz : (k : Int) < (l0.length : Int) := by omega
        obtain ⟨ad, B, c, rfl, hx0, hlx, hCx⟩ := at_row (Kd.C_below HC.out HB.out) k hlt (by omega)
        have hft := flat_take l0 k hlt
        have hfl := flat_le l0 (k + 1)
        rw [hft, List.length_append] at hfl
        obtain ⟨x, hx⟩ : ∃ x, x = l0[k] := ⟨_, rfl⟩
        rw [← hx] at hx0 hft hfl
        obtain ⟨q, hq⟩ : ∃ q, q = (l0.take k).flatten.length := ⟨_, rfl⟩
        rw [← hq] at hfl ⊢
        have hneg : ¬ ((q : Int) + (x.length : Int) < 0) := Int.not_lt.2 (Int.add_nonneg (Int.natCast_nonneg _) (Int.natCast_nonneg _))
        have hsum : wrap64 ((q : Int) + (x.length : Int)) = (q : Int) + (x.length : Int) := wrap_sum (by have := HT.out; omega)
        have HFT := Aside0.mk hft
        have HQ := Aside0.mk hq
        clear hft hfl hx hq hCx hlx
        go_wp2
        go_roundg (l0.length - (k + 1))
        case measure => omega
        case rel => exact ⟨k + 1, by omega, by omega, by rw [HFT.out, List.length_append, ← HQ.out, Int.natCast_add], by go_num, HB⟩
      · have hltz : ¬ (k : Int) < (l0.length : Int) := by omega
        obtain rfl : k = l0.length := by omega
        have htk : l0.take l0.length = l0 := List.take_length
        rw [htk]
        have HB1 := HB
        obtain ⟨tot, htt⟩ : ∃ tot, tot = l0.flatten.length := ⟨_, rfl⟩
        rw [← htt]
        have HTT := Aside0.mk (show tot ≤ 1000000000 by rw [htt]; exact HT.out)
        clear htt
        go_wp2_with (go_at_call 43; refine (grow_nil tot _ w.heap.size HB1.out.size HTT.out).mono ?_; rintro e w1 ⟨v1, rfl, ho1, hb1⟩; have HO1 := Aside0.mk ho1; have HB2 := Aside0.mk (HB1.out.trans hb1); clear ho1 hb1)
        clear HB1 HB
        go_loopg [6, 8, 27] l0.length (fun gg s6 _ s27 wr => ∃ k : Nat, k ≤ l0.length ∧ l0.length - k ≤ gg ∧ s27 = .int .i64 (k : Int) ∧ Aside0 (Kd.R (Kd.int .i64) 3 wr w.heap.size (fun _ => True) s6 (l0.take k).flatten) ∧ Aside0 (Below w.heap.size w wr))
        case atStart => exact ⟨0, Nat.zero_le _, by omega, rfl, ⟨by rw [List.take_zero, List.flatten_nil]; exact Help.int_own (l := []) HO1.out⟩, HB2⟩
        case round =>
          obtain ⟨k, hk, hg, rfl, HR, HB⟩ := hrel
          by_cases hlt : k < l0.length
          · have hltz : (k : Int) < (l0.length : Int) := by omega
            obtain ⟨ad, B, c, rfl, hx0, hlx, hCx⟩ := at_row (Kd.C_below HC.out HB.out) k hlt (by omega)
            have hft := flat_take l0 k hlt
            have hfl := flat_le l0 (k + 1)
            rw [hft, List.length_append] at hfl
            obtain ⟨x, hx⟩ : ∃ x, x = l0[k] := ⟨_, rfl⟩
            rw [← hx] at hx0 hft hfl hlx hCx
            have HFT := Aside0.mk hft
            have HFL := Aside0.mk hfl
            have HCX := Aside0.mk hCx
            clear hft hfl hx hCx hlx
            obtain ⟨fl, hfe⟩ : ∃ fl, fl = (l0.take k).flatten := ⟨_, rfl⟩
            rw [← hfe] at HR HFT HFL
            clear hfe
            obtain ⟨E, n, hE⟩ := Kd.R_slice HR.out
            subst hE
            go_wp2_with (at_builtin; refine print_append_row (w0 := w) w.heap.size rfl (.tmp 31) (.tmp 32) 22 3 .i64 8 rfl Try.underlying22 info3 (by decide) (.slice E fl.length n) fl x B x.length c rfl rfl (Kd.own_of_R HR.out) (Kd.reads_of_C HCX.out) HB.out HB.out.size (by have := HT.out; have := HFL.out; omega) ?_; intro v4 w4 hown hb4 hg4 hat4)
            go_roundg (l0.length - (k + 1))
            case measure => omega
            case rel =>
              refine ⟨k + 1, by omega, by omega, by go_num, ⟨?_⟩, ⟨hb4⟩⟩
              rw [HFT.out]
              exact Help.int_own (by simpa [nums] using hown)
          · have hltz : ¬ (k : Int) < (l0.length : Int) := by omega
            obtain rfl : k = l0.length := by omega
            rw [List.take_length] at HR
            go_wp2
            go_ret
            exact ⟨_, rfl, HR.out, HB.out⟩
  · cases h
end Go.Proofs.Ytedjibjmbgllkaa.PAll
