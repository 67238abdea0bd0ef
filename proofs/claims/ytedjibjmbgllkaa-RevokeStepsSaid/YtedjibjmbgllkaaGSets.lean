/- revoke.set at []int: the elements in increasing order, each once, in new memory; revoke.media: are all numbers those of media. -/
import Derived.Test.YtedjibjmbgllkaaPAllx0
import Derived.Test.YtedjibjmbgllkaaGHelp
import Derived.Test.YtedjibjmbgllkaaGSort
import Derived.Test.YtedjibjmbgllkaaShelf
namespace Go.Proofs.Ytedjibjmbgllkaa.PAll
open Go.RowKit Go.Proofs.YtedjibjmbgllkaaW.PrintWords Go.Proofs.YtedjibjmbgllkaaW.PrintLast Go.Proofs.YtedjibjmbgllkaaW.PrintMore
set_option linter.unusedVariables false
set_option linter.unusedSimpArgs false
theorem clone_own (A0 : Option Addr) (c0 : Nat) (l0 : List Int) (w : World) (hr0 : Kd.C (Kd.int .i64) w A0 l0.length l0) (hl : l0.length < 17592186044416) :
    Calls Try.prog 38 #[.slice A0 l0.length c0] w fun e w' => ∃ v0_ : Value, e = .returned (v0_) ∧ w'.ownsRow w.heap.size 3 1 v0_ l0.length (l0.map (Value.int .i64)) ∧ Below w.heap.size w w' := by
  cases A0 with
  | none =>
    obtain rfl := Help.int_nil hr0 rfl
    refine (Try.slices_Clone_int_nil _ _ w).mono ?_
    rintro e w' ⟨rfl, rfl⟩
    exact ⟨_, rfl, ⟨rfl, .inl ⟨rfl, rfl⟩⟩, Below.refl _ _⟩
  | some a =>
    rcases Nat.eq_zero_or_pos l0.length with h0 | h0
    · obtain rfl := List.eq_nil_of_length_eq_zero h0
      refine (Try.slices_Clone_int_zero a _ w).mono ?_
      rintro e w' ⟨v, rfl, ho, _, hb⟩
      exact ⟨v, rfl, ho, hb⟩
    · obtain ⟨b, off, ha, hc⟩ := Help.int_cells hr0 h0
      cases ha
      refine (Try.slices_Clone_int b off l0.length c0 l0 w (Nat.le_refl _) (by omega) hc).mono ?_
      rintro e w' ⟨v, rfl, ho, _, hb⟩
      rw [List.take_length] at ho
      exact ⟨v, rfl, ho, hb⟩
def revoke_set_int.f (l0 : List Int) : Option (List Int) := if l0.length < 17592186044416 then some (Help.sset l0) else none
theorem revoke_set_int.calls (A0 : Option Addr) (c0 : Nat) (l0 : List Int) (r : List Int) (w : World) (hr0 : Kd.C (Kd.int .i64) w A0 l0.length l0) (hc0 : l0.length ≤ c0) (h : revoke_set_int.f l0 = some r) :
    Calls Try.prog 27 #[.slice A0 l0.length c0] w fun e w' => ∃ v0_ : Value, e = .returned (v0_) ∧ Kd.R (Kd.int .i64) 3 w' w.heap.size (fun _ => True) v0_ r ∧ Below w.heap.size w w' := by
  unfold revoke_set_int.f at h
  split at h
  · rename_i hl
    injection h with h
    subst h
    have HC := Aside0.mk hr0
    have HL := Aside0.mk hl
    clear hr0 hc0 hl
    go_enter Try.func27, Try.ntmps27
    go_wp2_with (first
      | (go_at_call 38; refine (clone_own A0 c0 l0 _ HC.out HL.out).mono ?_; rintro e w1 ⟨v1, rfl, ho1, hb1⟩; have HO1 := Aside0.mk ho1; have HB1 := Aside0.mk hb1; clear ho1 hb1)
      | (go_at_call 39; refine (Help.sort_own HO1.out (by have := HL.out; omega)).mono ?_; rintro e w2 ⟨rfl, hg2, ho2⟩; have HG2 := Aside0.mk hg2; have HO2 := Aside0.mk ho2; clear hg2 ho2)
      | (go_at_call 40; refine (Help.compact_own (by rw [List.length_mergeSort]; exact HO2.out) (by rw [List.length_mergeSort]; have := HL.out; omega)).mono ?_; rintro e w3 ⟨v3, rfl, hg3, hv3, ho3⟩))
    go_ret
    refine ⟨v3, rfl, ?_, ?_⟩
    · rw [Help.compact_sort] at ho3
      exact Help.int_own ho3
    · exact (HB1.out.grown HG2.out HB1.out.size (own_base HO1.out)).grown hg3 (Nat.le_trans HB1.out.size HG2.out.size) (own_base HO2.out)
  · cases h
def badNo (n : Int) : Bool := decide (n < 1) || decide (n > 9999)
theorem badNo_pred (w : World) : PredAt Try.prog 37 #[] (Value.int .i64) badNo w := fun W r _ => by
  unfold FnGives badNo
  by_cases h1 : r < 1 <;> by_cases h2 : r > 9999
  all_goals
    go_enter Try.func37, Try.ntmps37
    go_wp2
    all_goals first | (exfalso; omega) | (go_ret; exact ⟨by simp [h1, h2], 0, rfl⟩)
def revoke_media.f (l0 : List Int) : Option (Bool) := if l0.length < 17592186044416 then some (!l0.any badNo) else none
theorem revoke_media.calls (A0 : Option Addr) (c0 : Nat) (l0 : List Int) (r : Bool) (w : World) (hr0 : Kd.C (Kd.int .i64) w A0 l0.length l0) (hc0 : l0.length ≤ c0) (h : revoke_media.f l0 = some r) :
    Calls Try.prog 25 #[.slice A0 l0.length c0] w fun e w' => e = .returned (.bool r) ∧ Below w.heap.size w w' := by
  unfold revoke_media.f at h
  split at h
  · rename_i hl
    injection h with h
    subst h
    have hC : ∀ W : World, W = w → Calls Try.prog 36 #[.slice A0 l0.length c0, .func (.func 37) #[] #[]] W fun e w' => e = .returned (.bool (l0.any badNo)) ∧ Below w.heap.size w w' := by
      rintro W rfl
      rcases Nat.eq_zero_or_pos l0.length with h0 | h0
      · obtain rfl := List.eq_nil_of_length_eq_zero h0
        refine (Try.slices_ContainsFunc_empty (α := Int) A0 c0 _ W).mono ?_
        rintro e w' ⟨rfl, rfl⟩
        exact ⟨rfl, Below.refl _ _⟩
      · obtain ⟨b, off, ha, hc⟩ := Help.int_cells hr0 h0
        cases ha
        refine (Try.slices_ContainsFunc (Value.int .i64) badNo 37 #[] (enters_of Try.func37 (by kernel_rfl) rfl) b off l0.length c0 l0 W (badNo_pred W) (Nat.le_refl _) (by omega) (fun j hj => ?_)).mono ?_
        · rw [hc j hj, getElem!_pos l0 j hj, List.getD_eq_getElem?_getD, List.getElem?_eq_getElem hj]
          rfl
        · rintro e w' ⟨rfl, q, rfl⟩
          rw [List.take_length]
          exact ⟨rfl, below_drewN' (Below.refl _ _) q⟩
    have HC := Aside0.mk hC
    clear hC hr0 hc0 hl
    go_enter Try.func25, Try.ntmps25
    go_wp2_with (go_at_call 36; refine (HC.out _ rfl).mono ?_; rintro e w1 ⟨rfl, hb1⟩)
    go_ret
    exact ⟨rfl, hb1⟩
  · cases h
end Go.Proofs.Ytedjibjmbgllkaa.PAll
