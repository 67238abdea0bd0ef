/- winch.common reports whether two lists have a common number. -/
import Derived.Test.YtipnnihjkipnoaaPAllx0
import Derived.Test.YtipnnihjkipnoaaGHelp
import Derived.Test.YtipnnihjkipnoaaShelf
namespace Go.Proofs.Ytipnnihjkipnoaa.PAll
set_option linter.unusedVariables false
set_option linter.unusedSimpArgs false
open Go.RowKit Go.Proofs.YtipnnihjkipnoaaW.PrintWords Go.Proofs.YtipnnihjkipnoaaW.PrintLast Go.Proofs.YtipnnihjkipnoaaW.PrintMore

def winch_common.f (l0 : List Int) (l1 : List Int) : Option (Bool) := some (l0.any (fun n => l1.contains n))

/-- The closure, in whatever later world. -/
theorem common1_any (A1 : Option Addr) (c1 : Nat) (l1 : List Int) (B : Nat) (w : World) (hr1 : Kd.C (Kd.int .i64) w A1 l1.length l1) (hB : B < w.heap.size) (hc : w.cell? ⟨B, 0, none⟩ = some (.slice A1 l1.length c1)) :
    PredAt Try.prog 39 #[.pointer (some ⟨B, 0, none⟩)] (fun x : Int => Value.int .i64 x) (fun x => l1.contains x) w := by
  intro W x hb
  have hc' := (hb.cell (p := ⟨B, 0, none⟩) hB).trans hc
  have hr := Kd.C_below hr1 hb
  clear hc hr1
  unfold FnGives
  rcases Nat.eq_zero_or_pos l1.length with h0 | h0
  · obtain rfl := List.eq_nil_of_length_eq_zero h0
    have HR := Aside0.mk hr
    clear hr
    go_enter Try.func39, Try.ntmps39
    go_wp2_with (go_at_call 37; refine (Try.slices_Contains_int_empty _ _ _ _).mono ?_; rintro e w' ⟨rfl, rfl⟩)
    go_ret
    exact ⟨rfl, 0, rfl⟩
  · obtain ⟨b, off, rfl, hcells⟩ := Help.int_cells hr h0
    have hm := Kd.C_max hr
    have HR := Aside0.mk hr
    have HC := Aside0.mk hcells
    clear hr hcells
    go_enter Try.func39, Try.ntmps39
    go_wp2_with (go_at_call 37; refine (Try.slices_Contains_int b off l1.length _ l1 _ _ (Nat.le_refl _) hm HC.out).mono ?_; rintro e w' ⟨rfl, rfl⟩)
    go_ret
    exact ⟨congrArg (fun b => Ending.returned (Value.bool b)) (by simp), 0, rfl⟩

theorem winch_common.calls (A0 : Option Addr) (c0 : Nat) (l0 : List Int) (A1 : Option Addr) (c1 : Nat) (l1 : List Int) (r : Bool) (w : World) (hr0 : Kd.C (Kd.int .i64) w A0 l0.length l0) (hc0 : l0.length ≤ c0) (hr1 : Kd.C (Kd.int .i64) w A1 l1.length l1) (hc1 : l1.length ≤ c1) (h : winch_common.f l0 l1 = some r) :
    Calls Try.prog 29 #[.slice A0 l0.length c0, .slice A1 l1.length c1] w fun e w' => e = .returned (.bool r) ∧ Below w.heap.size w w' := by
  unfold winch_common.f at h
  injection h with h
  have HR := Aside0.mk h
  clear h
  have hp := common1_any A1 c1 l1 w.heap.size (w.alloc (.cells #[.slice A1 l1.length c1] 27)) (Kd.C_alloc hr1 _) (by simp) (by have h_ := heap_alloc_new w (.cells #[.slice A1 l1.length c1] 27); unfold World.cell?; rw [h_]; rfl)
  have HP := Aside0.mk hp
  clear hp hr1
  rcases Nat.eq_zero_or_pos l0.length with h0 | h0
  · obtain rfl := List.eq_nil_of_length_eq_zero h0
    clear hr0
    go_enter Try.func29, Try.ntmps29
    go_wp2_with (go_at_call 38; refine (Try.slices_ContainsFunc_empty (α := Int) _ _ _ _).mono ?_; rintro e w' ⟨rfl, rfl⟩)
    go_ret
    exact ⟨by rw [← HR.out]; rfl, below_alloc (Below.refl _ _) _⟩
  · obtain ⟨b, off, rfl, hcells⟩ := Help.int_cells (Kd.C_alloc hr0 (.cells #[.slice A1 l1.length c1] 27)) h0
    have hm := Kd.C_max hr0
    have hcells2 : ∀ j, j < l0.length → (w.alloc (.cells #[.slice A1 l1.length c1] 27)).cell? ⟨b, off + j, none⟩ = some (Value.int .i64 l0[j]!) := fun j hj => by
      rw [hcells j hj, List.getD_eq_getElem?_getD, List.getElem!_eq_getElem?_getD]
      rfl
    have HC := Aside0.mk hcells2
    clear hr0 hcells hcells2
    go_enter Try.func29, Try.ntmps29
    go_wp2_with (go_at_call 38; refine (Try.slices_ContainsFunc (fun x : Int => Value.int .i64 x) _ 39 _ (enters_of Try.func39 (by kernel_rfl) rfl) b off l0.length _ l0 _ HP.out (Nat.le_refl _) hm HC.out).mono ?_; rintro e w' ⟨rfl, q, rfl⟩)
    go_ret
    exact ⟨congrArg (fun b => Ending.returned (Value.bool b)) (by rw [← HR.out]; simp), pw_below_drewN (below_alloc (Below.refl _ _) _) _⟩
end Go.Proofs.Ytipnnihjkipnoaa.PAll
