/- What each of these functions computes, and its contract over the machine: printed by a program out of the translation. No condition but those that each theorem states. -/
import Derived.Test.YtipnnihjkipnoaaPAllx0
import Derived.Test.YtipnnihjkipnoaaPAllx2
import Derived.Test.YtipnnihjkipnoaaPAllx3
import Derived.Test.YtipnnihjkipnoaaPAllx4
import Derived.Test.YtipnnihjkipnoaaGSwept
namespace Go.Proofs.Ytipnnihjkipnoaa.PAll
open Go.RowKit Go.Proofs.YtipnnihjkipnoaaW.PrintWords Go.Proofs.YtipnnihjkipnoaaW.PrintLast Go.Proofs.YtipnnihjkipnoaaW.PrintMore
attribute [local go_sem] max2_int min2_int max_two min_two max_three min_three max_four min_four   -- for this text's walks alone
set_option linter.unusedVariables false
set_option linter.unusedSimpArgs false

/-! ### skiarealaw46_alive: function 10 -/
def skiarealaw46_alive.f (k : Nat)  : Option (Bool) := (skiarealaw46_rope.f 1 100 200 (([5, 9] : List Int))).bind fun bt175 => ((skiarealaw46_rope.f 2 150 300 (([7] : List Int))).bind fun bt184 => ((some (([(⟨bt175.1, bt175.2.1, bt175.2.2.1, bt175.2.2.2⟩ : S29), (⟨bt184.1, bt184.2.1, bt184.2.2.1, bt184.2.2.2⟩ : S29)] : List (S29)) : List (S29))).bind fun y190 => ((skiarealaw46_rope.f 3 199 250 (([9] : List Int))).bind fun bt196 => ((winch_Lay.f k y190 bt196.1 bt196.2.1 bt196.2.2.1 bt196.2.2.2).bind fun bt202 => ((skiarealaw46_rope.f 3 200 250 (([9] : List Int))).bind fun bt209 => ((winch_Lay.f k y190 bt209.1 bt209.2.1 bt209.2.2.1 bt209.2.2.2).bind fun bt215 => ((skiarealaw46_rope.f 2 250 400 (([11] : List Int))).bind fun bt222 => ((winch_Lay.f k y190 bt222.1 bt222.2.1 bt222.2.2.1 bt222.2.2.2).bind fun bt228 => ((winch_Right.f k y190).bind fun t232 => (if t232 = 0 then (if bt202.2 = 15 then (if bt215.2 = 0 then (if bt228.2 = 15 then (if (bt215.1.length : Int) = 3 then ((winch_Clear.f k y190 200).bind fun t233 => (if 1 ≤ (y190.length : Int) then ((skiarearef46_Same.f k t233 (y190.drop 1)).bind fun t241 => (if t241 = true then ((winch_Swept.f y190 100).bind fun t242 => ((skiarearef46_SameInts.f k t242 (([5, 9] : List Int))).bind fun t248 => (if t248 = true then ((winch_Swept.f y190 150).bind fun t249 => ((skiarearef46_SameInts.f k t249 (([5, 7, 9] : List Int))).bind fun t255 => (if t255 = true then ((winch_Swept.f y190 200).bind fun t256 => ((skiarearef46_SameInts.f k t256 (([7] : List Int))).bind fun t262 => (if t262 = true then ((winch_Swept.f y190 300).bind fun t263 => (if (t263.length : Int) = 0 then ((winch_Free.f k y190 7 0 150).bind fun t266 => (if t266 = true then ((winch_Free.f k y190 7 0 151).bind fun t267 => (some (!t267))) else (none))) else (none))) else (none)))) else (none)))) else (none)))) else (none))) else (none))) else (none)) else (none)) else (none)) else (none)) else (none)))))))))))
theorem skiarealaw46_alive.mono : ∀ k, LeO (skiarealaw46_alive.f k ) (skiarealaw46_alive.f (k + 1) ) := by
  intro  k
  unfold skiarealaw46_alive.f
  repeat' first
      | (with_reducible exact skiarearef46_Same.mono _ _ _)
      | (with_reducible exact skiarearef46_SameInts.mono _ _ _)
      | (with_reducible exact winch_Clear.mono _ _ _)
      | (with_reducible exact winch_Free.mono _ _ _ _ _)
      | (with_reducible exact winch_Lay.mono _ _ _ _ _ _)
      | (with_reducible exact winch_Right.mono _ _)
      | (with_reducible exact LeO.refl _)
      | (with_reducible exact LeO.none _)
      | (with_reducible refine LeO.ite ?_ ?_)
      | (with_reducible refine LeO.bind ?_ (fun _ => ?_))
      | exact skiarearef46_Same.mono _ _ _
      | exact skiarearef46_SameInts.mono _ _ _
      | exact winch_Clear.mono _ _ _
      | exact winch_Free.mono _ _ _ _ _
      | exact winch_Lay.mono _ _ _ _ _ _
      | exact winch_Right.mono _ _
      | exact LeO.none _
      | refine LeO.ite ?_ ?_
      | refine LeO.bind ?_ (fun _ => ?_)
def skiarealaw46_alive.T5 : Bool × List (List Nat × List Nat) := (true, [([], []), ([0], [0]), ([1], [1]), ([2, 1], [2]), ([3], [3]), ([4, 3], [3, 4]), ([3, 5], [3, 5]), ([6, 3], [6]), ([7], [7]), ([8, 7], [7, 8]), ([7, 9], [7, 9]), ([10, 7], [10]), ([11], [11]), ([12, 11], [11, 12]), ([11, 13], [11, 13]), ([14, 11], [14]), ([15], [15]), ([16, 15], [15, 16]), ([17, 15], [15, 17]), ([15, 18], [15, 18]), ([19, 15], [19]), ([20], [20]), ([21, 20, 20], [20, 21]), ([20], [20]), ([23, 20], [20, 23]), ([22, 24, 22, 20], [20, 22, 24]), ([25, 20], [20, 25]), ([20, 26], [20, 26])])
def skiarealaw46_alive.B5 : List Nat := [0, 1, 3, 7, 15, 31, 63, 127, 255, 511, 1023, 2047, 4095, 8191, 16383, 32767, 65535, 131071, 262143, 524287, 1048575, 2097151, 4194303, 2097151, 10485759, 33554431, 67108863, 134217727]
theorem skiarealaw46_alive.tab5 : rtab .any (opsOf Try.f10 5) = skiarealaw46_alive.T5 := by kernel_rfl
theorem skiarealaw46_alive.bits5 : waitsOk skiarealaw46_alive.T5.2 skiarealaw46_alive.B5 = true := by kernel_rfl
set_option maxHeartbeats 8000000 in
set_option maxRecDepth 100000 in
theorem skiarealaw46_alive.calls (k : Nat)  (r : Bool) (w : World) (h : skiarealaw46_alive.f k  = some r) :
    Calls Try.prog 10 #[] w fun e w' => e = .returned (.bool r) ∧ Below w.heap.size w w' := by
  have hu39 := Try.underlying39
  have HB := Aside0.mk (Below.refl w.heap.size w)
  have H : ((skiarealaw46_rope.f 1 100 200 (([5, 9] : List Int))).bind fun bt175 => ((skiarealaw46_rope.f 2 150 300 (([7] : List Int))).bind fun bt184 => ((some (([(⟨bt175.1, bt175.2.1, bt175.2.2.1, bt175.2.2.2⟩ : S29), (⟨bt184.1, bt184.2.1, bt184.2.2.1, bt184.2.2.2⟩ : S29)] : List (S29)) : List (S29))).bind fun y190 => ((skiarealaw46_rope.f 3 199 250 (([9] : List Int))).bind fun bt196 => ((winch_Lay.f k y190 bt196.1 bt196.2.1 bt196.2.2.1 bt196.2.2.2).bind fun bt202 => ((skiarealaw46_rope.f 3 200 250 (([9] : List Int))).bind fun bt209 => ((winch_Lay.f k y190 bt209.1 bt209.2.1 bt209.2.2.1 bt209.2.2.2).bind fun bt215 => ((skiarealaw46_rope.f 2 250 400 (([11] : List Int))).bind fun bt222 => ((winch_Lay.f k y190 bt222.1 bt222.2.1 bt222.2.2.1 bt222.2.2.2).bind fun bt228 => ((winch_Right.f k y190).bind fun t232 => (if t232 = 0 then (if bt202.2 = 15 then (if bt215.2 = 0 then (if bt228.2 = 15 then (if (bt215.1.length : Int) = 3 then ((winch_Clear.f k y190 200).bind fun t233 => (if 1 ≤ (y190.length : Int) then ((skiarearef46_Same.f k t233 (y190.drop 1)).bind fun t241 => (if t241 = true then ((winch_Swept.f y190 100).bind fun t242 => ((skiarearef46_SameInts.f k t242 (([5, 9] : List Int))).bind fun t248 => (if t248 = true then ((winch_Swept.f y190 150).bind fun t249 => ((skiarearef46_SameInts.f k t249 (([5, 7, 9] : List Int))).bind fun t255 => (if t255 = true then ((winch_Swept.f y190 200).bind fun t256 => ((skiarearef46_SameInts.f k t256 (([7] : List Int))).bind fun t262 => (if t262 = true then ((winch_Swept.f y190 300).bind fun t263 => (if (t263.length : Int) = 0 then ((winch_Free.f k y190 7 0 150).bind fun t266 => (if t266 = true then ((winch_Free.f k y190 7 0 151).bind fun t267 => (some (!t267))) else (none))) else (none))) else (none)))) else (none)))) else (none)))) else (none))) else (none))) else (none)) else (none)) else (none)) else (none)) else (none)))))))))))) = some r := h
  clear h
  obtain ⟨y172, hy172⟩ : ∃ y_ : List Int, y_ = (([5, 9] : List Int)) := ⟨_, rfl⟩
  replace H : ((skiarealaw46_rope.f 1 100 200 y172).bind fun bt175 => ((skiarealaw46_rope.f 2 150 300 (([7] : List Int))).bind fun bt184 => ((some (([(⟨bt175.1, bt175.2.1, bt175.2.2.1, bt175.2.2.2⟩ : S29), (⟨bt184.1, bt184.2.1, bt184.2.2.1, bt184.2.2.2⟩ : S29)] : List (S29)) : List (S29))).bind fun y190 => ((skiarealaw46_rope.f 3 199 250 (([9] : List Int))).bind fun bt196 => ((winch_Lay.f k y190 bt196.1 bt196.2.1 bt196.2.2.1 bt196.2.2.2).bind fun bt202 => ((skiarealaw46_rope.f 3 200 250 (([9] : List Int))).bind fun bt209 => ((winch_Lay.f k y190 bt209.1 bt209.2.1 bt209.2.2.1 bt209.2.2.2).bind fun bt215 => ((skiarealaw46_rope.f 2 250 400 (([11] : List Int))).bind fun bt222 => ((winch_Lay.f k y190 bt222.1 bt222.2.1 bt222.2.2.1 bt222.2.2.2).bind fun bt228 => ((winch_Right.f k y190).bind fun t232 => (if t232 = 0 then (if bt202.2 = 15 then (if bt215.2 = 0 then (if bt228.2 = 15 then (if (bt215.1.length : Int) = 3 then ((winch_Clear.f k y190 200).bind fun t233 => (if 1 ≤ (y190.length : Int) then ((skiarearef46_Same.f k t233 (y190.drop 1)).bind fun t241 => (if t241 = true then ((winch_Swept.f y190 100).bind fun t242 => ((skiarearef46_SameInts.f k t242 (([5, 9] : List Int))).bind fun t248 => (if t248 = true then ((winch_Swept.f y190 150).bind fun t249 => ((skiarearef46_SameInts.f k t249 (([5, 7, 9] : List Int))).bind fun t255 => (if t255 = true then ((winch_Swept.f y190 200).bind fun t256 => ((skiarearef46_SameInts.f k t256 (([7] : List Int))).bind fun t262 => (if t262 = true then ((winch_Swept.f y190 300).bind fun t263 => (if (t263.length : Int) = 0 then ((winch_Free.f k y190 7 0 150).bind fun t266 => (if t266 = true then ((winch_Free.f k y190 7 0 151).bind fun t267 => (some (!t267))) else (none))) else (none))) else (none)))) else (none)))) else (none)))) else (none))) else (none))) else (none)) else (none)) else (none)) else (none)) else (none)))))))))))) = some r := by first | (rw [hy172]; with_reducible exact H) | (have H2_ := (Option.bind_some _ _).symm.trans H; rw [hy172]; with_reducible exact H2_) | (have H2_ := (Option.bind_some _ _).symm.trans H; with_reducible exact H2_) | with_reducible exact H | (rw [hy172]; exact H) | exact H
  have Ny172 := Aside0.mk hy172
  clear hy172
  replace H := Option.bind_eq_some_iff.mp H
  obtain ⟨⟨t175, t176, t177, t178⟩, A10, H⟩ := H
  replace H : ((skiarealaw46_rope.f 2 150 300 (([7] : List Int))).bind fun bt184 => ((some (([(⟨t175, t176, t177, t178⟩ : S29), (⟨bt184.1, bt184.2.1, bt184.2.2.1, bt184.2.2.2⟩ : S29)] : List (S29)) : List (S29))).bind fun y190 => ((skiarealaw46_rope.f 3 199 250 (([9] : List Int))).bind fun bt196 => ((winch_Lay.f k y190 bt196.1 bt196.2.1 bt196.2.2.1 bt196.2.2.2).bind fun bt202 => ((skiarealaw46_rope.f 3 200 250 (([9] : List Int))).bind fun bt209 => ((winch_Lay.f k y190 bt209.1 bt209.2.1 bt209.2.2.1 bt209.2.2.2).bind fun bt215 => ((skiarealaw46_rope.f 2 250 400 (([11] : List Int))).bind fun bt222 => ((winch_Lay.f k y190 bt222.1 bt222.2.1 bt222.2.2.1 bt222.2.2.2).bind fun bt228 => ((winch_Right.f k y190).bind fun t232 => (if t232 = 0 then (if bt202.2 = 15 then (if bt215.2 = 0 then (if bt228.2 = 15 then (if (bt215.1.length : Int) = 3 then ((winch_Clear.f k y190 200).bind fun t233 => (if 1 ≤ (y190.length : Int) then ((skiarearef46_Same.f k t233 (y190.drop 1)).bind fun t241 => (if t241 = true then ((winch_Swept.f y190 100).bind fun t242 => ((skiarearef46_SameInts.f k t242 (([5, 9] : List Int))).bind fun t248 => (if t248 = true then ((winch_Swept.f y190 150).bind fun t249 => ((skiarearef46_SameInts.f k t249 (([5, 7, 9] : List Int))).bind fun t255 => (if t255 = true then ((winch_Swept.f y190 200).bind fun t256 => ((skiarearef46_SameInts.f k t256 (([7] : List Int))).bind fun t262 => (if t262 = true then ((winch_Swept.f y190 300).bind fun t263 => (if (t263.length : Int) = 0 then ((winch_Free.f k y190 7 0 150).bind fun t266 => (if t266 = true then ((winch_Free.f k y190 7 0 151).bind fun t267 => (some (!t267))) else (none))) else (none))) else (none)))) else (none)))) else (none)))) else (none))) else (none))) else (none)) else (none)) else (none)) else (none)) else (none))))))))))) = some r := H
  have A1 := Aside0.mk A10
  clear A10
  obtain ⟨y181, hy181⟩ : ∃ y_ : List Int, y_ = (([7] : List Int)) := ⟨_, rfl⟩
  replace H : ((skiarealaw46_rope.f 2 150 300 y181).bind fun bt184 => ((some (([(⟨t175, t176, t177, t178⟩ : S29), (⟨bt184.1, bt184.2.1, bt184.2.2.1, bt184.2.2.2⟩ : S29)] : List (S29)) : List (S29))).bind fun y190 => ((skiarealaw46_rope.f 3 199 250 (([9] : List Int))).bind fun bt196 => ((winch_Lay.f k y190 bt196.1 bt196.2.1 bt196.2.2.1 bt196.2.2.2).bind fun bt202 => ((skiarealaw46_rope.f 3 200 250 (([9] : List Int))).bind fun bt209 => ((winch_Lay.f k y190 bt209.1 bt209.2.1 bt209.2.2.1 bt209.2.2.2).bind fun bt215 => ((skiarealaw46_rope.f 2 250 400 (([11] : List Int))).bind fun bt222 => ((winch_Lay.f k y190 bt222.1 bt222.2.1 bt222.2.2.1 bt222.2.2.2).bind fun bt228 => ((winch_Right.f k y190).bind fun t232 => (if t232 = 0 then (if bt202.2 = 15 then (if bt215.2 = 0 then (if bt228.2 = 15 then (if (bt215.1.length : Int) = 3 then ((winch_Clear.f k y190 200).bind fun t233 => (if 1 ≤ (y190.length : Int) then ((skiarearef46_Same.f k t233 (y190.drop 1)).bind fun t241 => (if t241 = true then ((winch_Swept.f y190 100).bind fun t242 => ((skiarearef46_SameInts.f k t242 (([5, 9] : List Int))).bind fun t248 => (if t248 = true then ((winch_Swept.f y190 150).bind fun t249 => ((skiarearef46_SameInts.f k t249 (([5, 7, 9] : List Int))).bind fun t255 => (if t255 = true then ((winch_Swept.f y190 200).bind fun t256 => ((skiarearef46_SameInts.f k t256 (([7] : List Int))).bind fun t262 => (if t262 = true then ((winch_Swept.f y190 300).bind fun t263 => (if (t263.length : Int) = 0 then ((winch_Free.f k y190 7 0 150).bind fun t266 => (if t266 = true then ((winch_Free.f k y190 7 0 151).bind fun t267 => (some (!t267))) else (none))) else (none))) else (none)))) else (none)))) else (none)))) else (none))) else (none))) else (none)) else (none)) else (none)) else (none)) else (none))))))))))) = some r := by first | (rw [hy181]; with_reducible exact H) | (have H2_ := (Option.bind_some _ _).symm.trans H; rw [hy181]; with_reducible exact H2_) | (have H2_ := (Option.bind_some _ _).symm.trans H; with_reducible exact H2_) | with_reducible exact H | (rw [hy181]; exact H) | exact H
  have Ny181 := Aside0.mk hy181
  clear hy181
  replace H := Option.bind_eq_some_iff.mp H
  obtain ⟨⟨t184, t185, t186, t187⟩, A20, H⟩ := H
  replace H : ((some (([(⟨t175, t176, t177, t178⟩ : S29), (⟨t184, t185, t186, t187⟩ : S29)] : List (S29)) : List (S29))).bind fun y190 => ((skiarealaw46_rope.f 3 199 250 (([9] : List Int))).bind fun bt196 => ((winch_Lay.f k y190 bt196.1 bt196.2.1 bt196.2.2.1 bt196.2.2.2).bind fun bt202 => ((skiarealaw46_rope.f 3 200 250 (([9] : List Int))).bind fun bt209 => ((winch_Lay.f k y190 bt209.1 bt209.2.1 bt209.2.2.1 bt209.2.2.2).bind fun bt215 => ((skiarealaw46_rope.f 2 250 400 (([11] : List Int))).bind fun bt222 => ((winch_Lay.f k y190 bt222.1 bt222.2.1 bt222.2.2.1 bt222.2.2.2).bind fun bt228 => ((winch_Right.f k y190).bind fun t232 => (if t232 = 0 then (if bt202.2 = 15 then (if bt215.2 = 0 then (if bt228.2 = 15 then (if (bt215.1.length : Int) = 3 then ((winch_Clear.f k y190 200).bind fun t233 => (if 1 ≤ (y190.length : Int) then ((skiarearef46_Same.f k t233 (y190.drop 1)).bind fun t241 => (if t241 = true then ((winch_Swept.f y190 100).bind fun t242 => ((skiarearef46_SameInts.f k t242 (([5, 9] : List Int))).bind fun t248 => (if t248 = true then ((winch_Swept.f y190 150).bind fun t249 => ((skiarearef46_SameInts.f k t249 (([5, 7, 9] : List Int))).bind fun t255 => (if t255 = true then ((winch_Swept.f y190 200).bind fun t256 => ((skiarearef46_SameInts.f k t256 (([7] : List Int))).bind fun t262 => (if t262 = true then ((winch_Swept.f y190 300).bind fun t263 => (if (t263.length : Int) = 0 then ((winch_Free.f k y190 7 0 150).bind fun t266 => (if t266 = true then ((winch_Free.f k y190 7 0 151).bind fun t267 => (some (!t267))) else (none))) else (none))) else (none)))) else (none)))) else (none)))) else (none))) else (none))) else (none)) else (none)) else (none)) else (none)) else (none)))))))))) = some r := H
  have A2 := Aside0.mk A20
  clear A20
  obtain ⟨y190, hy190⟩ : ∃ y_ : List (S29), y_ = (([(⟨t175, t176, t177, t178⟩ : S29), (⟨t184, t185, t186, t187⟩ : S29)] : List (S29))) := ⟨_, rfl⟩
  replace H : ((skiarealaw46_rope.f 3 199 250 (([9] : List Int))).bind fun bt196 => ((winch_Lay.f k y190 bt196.1 bt196.2.1 bt196.2.2.1 bt196.2.2.2).bind fun bt202 => ((skiarealaw46_rope.f 3 200 250 (([9] : List Int))).bind fun bt209 => ((winch_Lay.f k y190 bt209.1 bt209.2.1 bt209.2.2.1 bt209.2.2.2).bind fun bt215 => ((skiarealaw46_rope.f 2 250 400 (([11] : List Int))).bind fun bt222 => ((winch_Lay.f k y190 bt222.1 bt222.2.1 bt222.2.2.1 bt222.2.2.2).bind fun bt228 => ((winch_Right.f k y190).bind fun t232 => (if t232 = 0 then (if bt202.2 = 15 then (if bt215.2 = 0 then (if bt228.2 = 15 then (if (bt215.1.length : Int) = 3 then ((winch_Clear.f k y190 200).bind fun t233 => (if 1 ≤ (y190.length : Int) then ((skiarearef46_Same.f k t233 (y190.drop 1)).bind fun t241 => (if t241 = true then ((winch_Swept.f y190 100).bind fun t242 => ((skiarearef46_SameInts.f k t242 (([5, 9] : List Int))).bind fun t248 => (if t248 = true then ((winch_Swept.f y190 150).bind fun t249 => ((skiarearef46_SameInts.f k t249 (([5, 7, 9] : List Int))).bind fun t255 => (if t255 = true then ((winch_Swept.f y190 200).bind fun t256 => ((skiarearef46_SameInts.f k t256 (([7] : List Int))).bind fun t262 => (if t262 = true then ((winch_Swept.f y190 300).bind fun t263 => (if (t263.length : Int) = 0 then ((winch_Free.f k y190 7 0 150).bind fun t266 => (if t266 = true then ((winch_Free.f k y190 7 0 151).bind fun t267 => (some (!t267))) else (none))) else (none))) else (none)))) else (none)))) else (none)))) else (none))) else (none))) else (none)) else (none)) else (none)) else (none)) else (none))))))))) = some r := by first | (rw [hy190]; with_reducible exact H) | (have H2_ := (Option.bind_some _ _).symm.trans H; rw [hy190]; with_reducible exact H2_) | (have H2_ := (Option.bind_some _ _).symm.trans H; with_reducible exact H2_) | with_reducible exact H | (rw [hy190]; exact H) | exact H
  have Ny190 := Aside0.mk hy190
  clear hy190
  obtain ⟨y193, hy193⟩ : ∃ y_ : List Int, y_ = (([9] : List Int)) := ⟨_, rfl⟩
  replace H : ((skiarealaw46_rope.f 3 199 250 y193).bind fun bt196 => ((winch_Lay.f k y190 bt196.1 bt196.2.1 bt196.2.2.1 bt196.2.2.2).bind fun bt202 => ((skiarealaw46_rope.f 3 200 250 (([9] : List Int))).bind fun bt209 => ((winch_Lay.f k y190 bt209.1 bt209.2.1 bt209.2.2.1 bt209.2.2.2).bind fun bt215 => ((skiarealaw46_rope.f 2 250 400 (([11] : List Int))).bind fun bt222 => ((winch_Lay.f k y190 bt222.1 bt222.2.1 bt222.2.2.1 bt222.2.2.2).bind fun bt228 => ((winch_Right.f k y190).bind fun t232 => (if t232 = 0 then (if bt202.2 = 15 then (if bt215.2 = 0 then (if bt228.2 = 15 then (if (bt215.1.length : Int) = 3 then ((winch_Clear.f k y190 200).bind fun t233 => (if 1 ≤ (y190.length : Int) then ((skiarearef46_Same.f k t233 (y190.drop 1)).bind fun t241 => (if t241 = true then ((winch_Swept.f y190 100).bind fun t242 => ((skiarearef46_SameInts.f k t242 (([5, 9] : List Int))).bind fun t248 => (if t248 = true then ((winch_Swept.f y190 150).bind fun t249 => ((skiarearef46_SameInts.f k t249 (([5, 7, 9] : List Int))).bind fun t255 => (if t255 = true then ((winch_Swept.f y190 200).bind fun t256 => ((skiarearef46_SameInts.f k t256 (([7] : List Int))).bind fun t262 => (if t262 = true then ((winch_Swept.f y190 300).bind fun t263 => (if (t263.length : Int) = 0 then ((winch_Free.f k y190 7 0 150).bind fun t266 => (if t266 = true then ((winch_Free.f k y190 7 0 151).bind fun t267 => (some (!t267))) else (none))) else (none))) else (none)))) else (none)))) else (none)))) else (none))) else (none))) else (none)) else (none)) else (none)) else (none)) else (none))))))))) = some r := by first | (rw [hy193]; with_reducible exact H) | (have H2_ := (Option.bind_some _ _).symm.trans H; rw [hy193]; with_reducible exact H2_) | (have H2_ := (Option.bind_some _ _).symm.trans H; with_reducible exact H2_) | with_reducible exact H | (rw [hy193]; exact H) | exact H
  have Ny193 := Aside0.mk hy193
  clear hy193
  replace H := Option.bind_eq_some_iff.mp H
  obtain ⟨⟨t196, t197, t198, t199⟩, A30, H⟩ := H
  replace H : ((winch_Lay.f k y190 t196 t197 t198 t199).bind fun bt202 => ((skiarealaw46_rope.f 3 200 250 (([9] : List Int))).bind fun bt209 => ((winch_Lay.f k y190 bt209.1 bt209.2.1 bt209.2.2.1 bt209.2.2.2).bind fun bt215 => ((skiarealaw46_rope.f 2 250 400 (([11] : List Int))).bind fun bt222 => ((winch_Lay.f k y190 bt222.1 bt222.2.1 bt222.2.2.1 bt222.2.2.2).bind fun bt228 => ((winch_Right.f k y190).bind fun t232 => (if t232 = 0 then (if bt202.2 = 15 then (if bt215.2 = 0 then (if bt228.2 = 15 then (if (bt215.1.length : Int) = 3 then ((winch_Clear.f k y190 200).bind fun t233 => (if 1 ≤ (y190.length : Int) then ((skiarearef46_Same.f k t233 (y190.drop 1)).bind fun t241 => (if t241 = true then ((winch_Swept.f y190 100).bind fun t242 => ((skiarearef46_SameInts.f k t242 (([5, 9] : List Int))).bind fun t248 => (if t248 = true then ((winch_Swept.f y190 150).bind fun t249 => ((skiarearef46_SameInts.f k t249 (([5, 7, 9] : List Int))).bind fun t255 => (if t255 = true then ((winch_Swept.f y190 200).bind fun t256 => ((skiarearef46_SameInts.f k t256 (([7] : List Int))).bind fun t262 => (if t262 = true then ((winch_Swept.f y190 300).bind fun t263 => (if (t263.length : Int) = 0 then ((winch_Free.f k y190 7 0 150).bind fun t266 => (if t266 = true then ((winch_Free.f k y190 7 0 151).bind fun t267 => (some (!t267))) else (none))) else (none))) else (none)))) else (none)))) else (none)))) else (none))) else (none))) else (none)) else (none)) else (none)) else (none)) else (none)))))))) = some r := H
  have A3 := Aside0.mk A30
  clear A30
  replace H := Option.bind_eq_some_iff.mp H
  obtain ⟨⟨t202, t205⟩, A40, H⟩ := H
  replace H : ((skiarealaw46_rope.f 3 200 250 (([9] : List Int))).bind fun bt209 => ((winch_Lay.f k y190 bt209.1 bt209.2.1 bt209.2.2.1 bt209.2.2.2).bind fun bt215 => ((skiarealaw46_rope.f 2 250 400 (([11] : List Int))).bind fun bt222 => ((winch_Lay.f k y190 bt222.1 bt222.2.1 bt222.2.2.1 bt222.2.2.2).bind fun bt228 => ((winch_Right.f k y190).bind fun t232 => (if t232 = 0 then (if t205 = 15 then (if bt215.2 = 0 then (if bt228.2 = 15 then (if (bt215.1.length : Int) = 3 then ((winch_Clear.f k y190 200).bind fun t233 => (if 1 ≤ (y190.length : Int) then ((skiarearef46_Same.f k t233 (y190.drop 1)).bind fun t241 => (if t241 = true then ((winch_Swept.f y190 100).bind fun t242 => ((skiarearef46_SameInts.f k t242 (([5, 9] : List Int))).bind fun t248 => (if t248 = true then ((winch_Swept.f y190 150).bind fun t249 => ((skiarearef46_SameInts.f k t249 (([5, 7, 9] : List Int))).bind fun t255 => (if t255 = true then ((winch_Swept.f y190 200).bind fun t256 => ((skiarearef46_SameInts.f k t256 (([7] : List Int))).bind fun t262 => (if t262 = true then ((winch_Swept.f y190 300).bind fun t263 => (if (t263.length : Int) = 0 then ((winch_Free.f k y190 7 0 150).bind fun t266 => (if t266 = true then ((winch_Free.f k y190 7 0 151).bind fun t267 => (some (!t267))) else (none))) else (none))) else (none)))) else (none)))) else (none)))) else (none))) else (none))) else (none)) else (none)) else (none)) else (none)) else (none))))))) = some r := H
  have A4 := Aside0.mk A40
  clear A40
  obtain ⟨y206, hy206⟩ : ∃ y_ : List Int, y_ = (([9] : List Int)) := ⟨_, rfl⟩
  replace H : ((skiarealaw46_rope.f 3 200 250 y206).bind fun bt209 => ((winch_Lay.f k y190 bt209.1 bt209.2.1 bt209.2.2.1 bt209.2.2.2).bind fun bt215 => ((skiarealaw46_rope.f 2 250 400 (([11] : List Int))).bind fun bt222 => ((winch_Lay.f k y190 bt222.1 bt222.2.1 bt222.2.2.1 bt222.2.2.2).bind fun bt228 => ((winch_Right.f k y190).bind fun t232 => (if t232 = 0 then (if t205 = 15 then (if bt215.2 = 0 then (if bt228.2 = 15 then (if (bt215.1.length : Int) = 3 then ((winch_Clear.f k y190 200).bind fun t233 => (if 1 ≤ (y190.length : Int) then ((skiarearef46_Same.f k t233 (y190.drop 1)).bind fun t241 => (if t241 = true then ((winch_Swept.f y190 100).bind fun t242 => ((skiarearef46_SameInts.f k t242 (([5, 9] : List Int))).bind fun t248 => (if t248 = true then ((winch_Swept.f y190 150).bind fun t249 => ((skiarearef46_SameInts.f k t249 (([5, 7, 9] : List Int))).bind fun t255 => (if t255 = true then ((winch_Swept.f y190 200).bind fun t256 => ((skiarearef46_SameInts.f k t256 (([7] : List Int))).bind fun t262 => (if t262 = true then ((winch_Swept.f y190 300).bind fun t263 => (if (t263.length : Int) = 0 then ((winch_Free.f k y190 7 0 150).bind fun t266 => (if t266 = true then ((winch_Free.f k y190 7 0 151).bind fun t267 => (some (!t267))) else (none))) else (none))) else (none)))) else (none)))) else (none)))) else (none))) else (none))) else (none)) else (none)) else (none)) else (none)) else (none))))))) = some r := by first | (rw [hy206]; with_reducible exact H) | (have H2_ := (Option.bind_some _ _).symm.trans H; rw [hy206]; with_reducible exact H2_) | (have H2_ := (Option.bind_some _ _).symm.trans H; with_reducible exact H2_) | with_reducible exact H | (rw [hy206]; exact H) | exact H
  have Ny206 := Aside0.mk hy206
  clear hy206
  replace H := Option.bind_eq_some_iff.mp H
  obtain ⟨⟨t209, t210, t211, t212⟩, A50, H⟩ := H
  replace H : ((winch_Lay.f k y190 t209 t210 t211 t212).bind fun bt215 => ((skiarealaw46_rope.f 2 250 400 (([11] : List Int))).bind fun bt222 => ((winch_Lay.f k y190 bt222.1 bt222.2.1 bt222.2.2.1 bt222.2.2.2).bind fun bt228 => ((winch_Right.f k y190).bind fun t232 => (if t232 = 0 then (if t205 = 15 then (if bt215.2 = 0 then (if bt228.2 = 15 then (if (bt215.1.length : Int) = 3 then ((winch_Clear.f k y190 200).bind fun t233 => (if 1 ≤ (y190.length : Int) then ((skiarearef46_Same.f k t233 (y190.drop 1)).bind fun t241 => (if t241 = true then ((winch_Swept.f y190 100).bind fun t242 => ((skiarearef46_SameInts.f k t242 (([5, 9] : List Int))).bind fun t248 => (if t248 = true then ((winch_Swept.f y190 150).bind fun t249 => ((skiarearef46_SameInts.f k t249 (([5, 7, 9] : List Int))).bind fun t255 => (if t255 = true then ((winch_Swept.f y190 200).bind fun t256 => ((skiarearef46_SameInts.f k t256 (([7] : List Int))).bind fun t262 => (if t262 = true then ((winch_Swept.f y190 300).bind fun t263 => (if (t263.length : Int) = 0 then ((winch_Free.f k y190 7 0 150).bind fun t266 => (if t266 = true then ((winch_Free.f k y190 7 0 151).bind fun t267 => (some (!t267))) else (none))) else (none))) else (none)))) else (none)))) else (none)))) else (none))) else (none))) else (none)) else (none)) else (none)) else (none)) else (none)))))) = some r := H
  have A5 := Aside0.mk A50
  clear A50
  replace H := Option.bind_eq_some_iff.mp H
  obtain ⟨⟨t215, t218⟩, A60, H⟩ := H
  replace H : ((skiarealaw46_rope.f 2 250 400 (([11] : List Int))).bind fun bt222 => ((winch_Lay.f k y190 bt222.1 bt222.2.1 bt222.2.2.1 bt222.2.2.2).bind fun bt228 => ((winch_Right.f k y190).bind fun t232 => (if t232 = 0 then (if t205 = 15 then (if t218 = 0 then (if bt228.2 = 15 then (if (t215.length : Int) = 3 then ((winch_Clear.f k y190 200).bind fun t233 => (if 1 ≤ (y190.length : Int) then ((skiarearef46_Same.f k t233 (y190.drop 1)).bind fun t241 => (if t241 = true then ((winch_Swept.f y190 100).bind fun t242 => ((skiarearef46_SameInts.f k t242 (([5, 9] : List Int))).bind fun t248 => (if t248 = true then ((winch_Swept.f y190 150).bind fun t249 => ((skiarearef46_SameInts.f k t249 (([5, 7, 9] : List Int))).bind fun t255 => (if t255 = true then ((winch_Swept.f y190 200).bind fun t256 => ((skiarearef46_SameInts.f k t256 (([7] : List Int))).bind fun t262 => (if t262 = true then ((winch_Swept.f y190 300).bind fun t263 => (if (t263.length : Int) = 0 then ((winch_Free.f k y190 7 0 150).bind fun t266 => (if t266 = true then ((winch_Free.f k y190 7 0 151).bind fun t267 => (some (!t267))) else (none))) else (none))) else (none)))) else (none)))) else (none)))) else (none))) else (none))) else (none)) else (none)) else (none)) else (none)) else (none))))) = some r := H
  have A6 := Aside0.mk A60
  clear A60
  obtain ⟨y219, hy219⟩ : ∃ y_ : List Int, y_ = (([11] : List Int)) := ⟨_, rfl⟩
  replace H : ((skiarealaw46_rope.f 2 250 400 y219).bind fun bt222 => ((winch_Lay.f k y190 bt222.1 bt222.2.1 bt222.2.2.1 bt222.2.2.2).bind fun bt228 => ((winch_Right.f k y190).bind fun t232 => (if t232 = 0 then (if t205 = 15 then (if t218 = 0 then (if bt228.2 = 15 then (if (t215.length : Int) = 3 then ((winch_Clear.f k y190 200).bind fun t233 => (if 1 ≤ (y190.length : Int) then ((skiarearef46_Same.f k t233 (y190.drop 1)).bind fun t241 => (if t241 = true then ((winch_Swept.f y190 100).bind fun t242 => ((skiarearef46_SameInts.f k t242 (([5, 9] : List Int))).bind fun t248 => (if t248 = true then ((winch_Swept.f y190 150).bind fun t249 => ((skiarearef46_SameInts.f k t249 (([5, 7, 9] : List Int))).bind fun t255 => (if t255 = true then ((winch_Swept.f y190 200).bind fun t256 => ((skiarearef46_SameInts.f k t256 (([7] : List Int))).bind fun t262 => (if t262 = true then ((winch_Swept.f y190 300).bind fun t263 => (if (t263.length : Int) = 0 then ((winch_Free.f k y190 7 0 150).bind fun t266 => (if t266 = true then ((winch_Free.f k y190 7 0 151).bind fun t267 => (some (!t267))) else (none))) else (none))) else (none)))) else (none)))) else (none)))) else (none))) else (none))) else (none)) else (none)) else (none)) else (none)) else (none))))) = some r := by first | (rw [hy219]; with_reducible exact H) | (have H2_ := (Option.bind_some _ _).symm.trans H; rw [hy219]; with_reducible exact H2_) | (have H2_ := (Option.bind_some _ _).symm.trans H; with_reducible exact H2_) | with_reducible exact H | (rw [hy219]; exact H) | exact H
  have Ny219 := Aside0.mk hy219
  clear hy219
  replace H := Option.bind_eq_some_iff.mp H
  obtain ⟨⟨t222, t223, t224, t225⟩, A70, H⟩ := H
  replace H : ((winch_Lay.f k y190 t222 t223 t224 t225).bind fun bt228 => ((winch_Right.f k y190).bind fun t232 => (if t232 = 0 then (if t205 = 15 then (if t218 = 0 then (if bt228.2 = 15 then (if (t215.length : Int) = 3 then ((winch_Clear.f k y190 200).bind fun t233 => (if 1 ≤ (y190.length : Int) then ((skiarearef46_Same.f k t233 (y190.drop 1)).bind fun t241 => (if t241 = true then ((winch_Swept.f y190 100).bind fun t242 => ((skiarearef46_SameInts.f k t242 (([5, 9] : List Int))).bind fun t248 => (if t248 = true then ((winch_Swept.f y190 150).bind fun t249 => ((skiarearef46_SameInts.f k t249 (([5, 7, 9] : List Int))).bind fun t255 => (if t255 = true then ((winch_Swept.f y190 200).bind fun t256 => ((skiarearef46_SameInts.f k t256 (([7] : List Int))).bind fun t262 => (if t262 = true then ((winch_Swept.f y190 300).bind fun t263 => (if (t263.length : Int) = 0 then ((winch_Free.f k y190 7 0 150).bind fun t266 => (if t266 = true then ((winch_Free.f k y190 7 0 151).bind fun t267 => (some (!t267))) else (none))) else (none))) else (none)))) else (none)))) else (none)))) else (none))) else (none))) else (none)) else (none)) else (none)) else (none)) else (none)))) = some r := H
  have A7 := Aside0.mk A70
  clear A70
  replace H := Option.bind_eq_some_iff.mp H
  obtain ⟨⟨t228, t231⟩, A80, H⟩ := H
  replace H : ((winch_Right.f k y190).bind fun t232 => (if t232 = 0 then (if t205 = 15 then (if t218 = 0 then (if t231 = 15 then (if (t215.length : Int) = 3 then ((winch_Clear.f k y190 200).bind fun t233 => (if 1 ≤ (y190.length : Int) then ((skiarearef46_Same.f k t233 (y190.drop 1)).bind fun t241 => (if t241 = true then ((winch_Swept.f y190 100).bind fun t242 => ((skiarearef46_SameInts.f k t242 (([5, 9] : List Int))).bind fun t248 => (if t248 = true then ((winch_Swept.f y190 150).bind fun t249 => ((skiarearef46_SameInts.f k t249 (([5, 7, 9] : List Int))).bind fun t255 => (if t255 = true then ((winch_Swept.f y190 200).bind fun t256 => ((skiarearef46_SameInts.f k t256 (([7] : List Int))).bind fun t262 => (if t262 = true then ((winch_Swept.f y190 300).bind fun t263 => (if (t263.length : Int) = 0 then ((winch_Free.f k y190 7 0 150).bind fun t266 => (if t266 = true then ((winch_Free.f k y190 7 0 151).bind fun t267 => (some (!t267))) else (none))) else (none))) else (none)))) else (none)))) else (none)))) else (none))) else (none))) else (none)) else (none)) else (none)) else (none)) else (none))) = some r := H
  have A8 := Aside0.mk A80
  clear A80
  replace H := Option.bind_eq_some_iff.mp H
  obtain ⟨t232, A90, H⟩ := H
  replace H : (if t232 = 0 then (if t205 = 15 then (if t218 = 0 then (if t231 = 15 then (if (t215.length : Int) = 3 then ((winch_Clear.f k y190 200).bind fun t233 => (if 1 ≤ (y190.length : Int) then ((skiarearef46_Same.f k t233 (y190.drop 1)).bind fun t241 => (if t241 = true then ((winch_Swept.f y190 100).bind fun t242 => ((skiarearef46_SameInts.f k t242 (([5, 9] : List Int))).bind fun t248 => (if t248 = true then ((winch_Swept.f y190 150).bind fun t249 => ((skiarearef46_SameInts.f k t249 (([5, 7, 9] : List Int))).bind fun t255 => (if t255 = true then ((winch_Swept.f y190 200).bind fun t256 => ((skiarearef46_SameInts.f k t256 (([7] : List Int))).bind fun t262 => (if t262 = true then ((winch_Swept.f y190 300).bind fun t263 => (if (t263.length : Int) = 0 then ((winch_Free.f k y190 7 0 150).bind fun t266 => (if t266 = true then ((winch_Free.f k y190 7 0 151).bind fun t267 => (some (!t267))) else (none))) else (none))) else (none)))) else (none)))) else (none)))) else (none))) else (none))) else (none)) else (none)) else (none)) else (none)) else (none)) = some r := H
  have A9 := Aside0.mk A90
  clear A90
  by_cases c10 : t232 = 0
  · rw [if_pos c10] at H
    have c10b0 : (t232 == 0) = true := beq_iff_eq.mpr c10
    have c10b1 : (t232 != 0) = false := bne_eq_false_iff_eq.mpr c10
    clear c10
    by_cases c11 : t205 = 15
    · rw [if_pos c11] at H
      have c11b0 : (t205 == 15) = true := beq_iff_eq.mpr c11
      have c11b1 : (t205 != 15) = false := bne_eq_false_iff_eq.mpr c11
      clear c11
      by_cases c12 : t218 = 0
      · rw [if_pos c12] at H
        have c12b0 : (t218 == 0) = true := beq_iff_eq.mpr c12
        have c12b1 : (t218 != 0) = false := bne_eq_false_iff_eq.mpr c12
        clear c12
        by_cases c13 : t231 = 15
        · rw [if_pos c13] at H
          have c13b0 : (t231 == 15) = true := beq_iff_eq.mpr c13
          have c13b1 : (t231 != 15) = false := bne_eq_false_iff_eq.mpr c13
          clear c13
          by_cases c14 : (t215.length : Int) = 3
          · rw [if_pos c14] at H
            have c14b0 : ((t215.length : Int) == 3) = true := beq_iff_eq.mpr c14
            have c14b1 : ((t215.length : Int) != 3) = false := bne_eq_false_iff_eq.mpr c14
            clear c14
            replace H := Option.bind_eq_some_iff.mp H
            obtain ⟨t233, A150, H⟩ := H
            replace H : (if 1 ≤ (y190.length : Int) then ((skiarearef46_Same.f k t233 (y190.drop 1)).bind fun t241 => (if t241 = true then ((winch_Swept.f y190 100).bind fun t242 => ((skiarearef46_SameInts.f k t242 (([5, 9] : List Int))).bind fun t248 => (if t248 = true then ((winch_Swept.f y190 150).bind fun t249 => ((skiarearef46_SameInts.f k t249 (([5, 7, 9] : List Int))).bind fun t255 => (if t255 = true then ((winch_Swept.f y190 200).bind fun t256 => ((skiarearef46_SameInts.f k t256 (([7] : List Int))).bind fun t262 => (if t262 = true then ((winch_Swept.f y190 300).bind fun t263 => (if (t263.length : Int) = 0 then ((winch_Free.f k y190 7 0 150).bind fun t266 => (if t266 = true then ((winch_Free.f k y190 7 0 151).bind fun t267 => (some (!t267))) else (none))) else (none))) else (none)))) else (none)))) else (none)))) else (none))) else (none)) = some r := H
            have A15 := Aside0.mk A150
            clear A150
            by_cases c16 : 1 ≤ (y190.length : Int)
            · rw [if_pos c16] at H
              have c16b0 := eq_true c16
              have c16b1 : decide (1 ≤ (y190.length : Int)) = true := decide_eq_true c16
              clear c16
              obtain ⟨y236, hy236⟩ : ∃ y_ : List (S29), y_ = (y190.drop 1) := ⟨_, rfl⟩
              replace H : ((skiarearef46_Same.f k t233 y236).bind fun t241 => (if t241 = true then ((winch_Swept.f y190 100).bind fun t242 => ((skiarearef46_SameInts.f k t242 (([5, 9] : List Int))).bind fun t248 => (if t248 = true then ((winch_Swept.f y190 150).bind fun t249 => ((skiarearef46_SameInts.f k t249 (([5, 7, 9] : List Int))).bind fun t255 => (if t255 = true then ((winch_Swept.f y190 200).bind fun t256 => ((skiarearef46_SameInts.f k t256 (([7] : List Int))).bind fun t262 => (if t262 = true then ((winch_Swept.f y190 300).bind fun t263 => (if (t263.length : Int) = 0 then ((winch_Free.f k y190 7 0 150).bind fun t266 => (if t266 = true then ((winch_Free.f k y190 7 0 151).bind fun t267 => (some (!t267))) else (none))) else (none))) else (none)))) else (none)))) else (none)))) else (none))) = some r := by first | (rw [hy236]; with_reducible exact H) | (have H2_ := (Option.bind_some _ _).symm.trans H; rw [hy236]; with_reducible exact H2_) | (have H2_ := (Option.bind_some _ _).symm.trans H; with_reducible exact H2_) | with_reducible exact H | (rw [hy236]; exact H) | exact H
              have Ny236 := Aside0.mk hy236
              clear hy236
              replace H := Option.bind_eq_some_iff.mp H
              obtain ⟨t241, A170, H⟩ := H
              replace H : (if t241 = true then ((winch_Swept.f y190 100).bind fun t242 => ((skiarearef46_SameInts.f k t242 (([5, 9] : List Int))).bind fun t248 => (if t248 = true then ((winch_Swept.f y190 150).bind fun t249 => ((skiarearef46_SameInts.f k t249 (([5, 7, 9] : List Int))).bind fun t255 => (if t255 = true then ((winch_Swept.f y190 200).bind fun t256 => ((skiarearef46_SameInts.f k t256 (([7] : List Int))).bind fun t262 => (if t262 = true then ((winch_Swept.f y190 300).bind fun t263 => (if (t263.length : Int) = 0 then ((winch_Free.f k y190 7 0 150).bind fun t266 => (if t266 = true then ((winch_Free.f k y190 7 0 151).bind fun t267 => (some (!t267))) else (none))) else (none))) else (none)))) else (none)))) else (none)))) else (none)) = some r := H
              have A17 := Aside0.mk A170
              clear A170
              by_cases c18 : t241 = true
              · subst c18
                have H1 : ((winch_Swept.f y190 100).bind fun t242 => ((skiarearef46_SameInts.f k t242 (([5, 9] : List Int))).bind fun t248 => (if t248 = true then ((winch_Swept.f y190 150).bind fun t249 => ((skiarearef46_SameInts.f k t249 (([5, 7, 9] : List Int))).bind fun t255 => (if t255 = true then ((winch_Swept.f y190 200).bind fun t256 => ((skiarearef46_SameInts.f k t256 (([7] : List Int))).bind fun t262 => (if t262 = true then ((winch_Swept.f y190 300).bind fun t263 => (if (t263.length : Int) = 0 then ((winch_Free.f k y190 7 0 150).bind fun t266 => (if t266 = true then ((winch_Free.f k y190 7 0 151).bind fun t267 => (some (!t267))) else (none))) else (none))) else (none)))) else (none)))) else (none)))) = some r := by rw [if_pos rfl] at H; exact H
                clear H
                have H := H1
                clear H1
                replace H := Option.bind_eq_some_iff.mp H
                obtain ⟨t242, A190, H⟩ := H
                replace H : ((skiarearef46_SameInts.f k t242 (([5, 9] : List Int))).bind fun t248 => (if t248 = true then ((winch_Swept.f y190 150).bind fun t249 => ((skiarearef46_SameInts.f k t249 (([5, 7, 9] : List Int))).bind fun t255 => (if t255 = true then ((winch_Swept.f y190 200).bind fun t256 => ((skiarearef46_SameInts.f k t256 (([7] : List Int))).bind fun t262 => (if t262 = true then ((winch_Swept.f y190 300).bind fun t263 => (if (t263.length : Int) = 0 then ((winch_Free.f k y190 7 0 150).bind fun t266 => (if t266 = true then ((winch_Free.f k y190 7 0 151).bind fun t267 => (some (!t267))) else (none))) else (none))) else (none)))) else (none)))) else (none))) = some r := H
                have A19 := Aside0.mk A190
                clear A190
                obtain ⟨y245, hy245⟩ : ∃ y_ : List Int, y_ = (([5, 9] : List Int)) := ⟨_, rfl⟩
                replace H : ((skiarearef46_SameInts.f k t242 y245).bind fun t248 => (if t248 = true then ((winch_Swept.f y190 150).bind fun t249 => ((skiarearef46_SameInts.f k t249 (([5, 7, 9] : List Int))).bind fun t255 => (if t255 = true then ((winch_Swept.f y190 200).bind fun t256 => ((skiarearef46_SameInts.f k t256 (([7] : List Int))).bind fun t262 => (if t262 = true then ((winch_Swept.f y190 300).bind fun t263 => (if (t263.length : Int) = 0 then ((winch_Free.f k y190 7 0 150).bind fun t266 => (if t266 = true then ((winch_Free.f k y190 7 0 151).bind fun t267 => (some (!t267))) else (none))) else (none))) else (none)))) else (none)))) else (none))) = some r := by first | (rw [hy245]; with_reducible exact H) | (have H2_ := (Option.bind_some _ _).symm.trans H; rw [hy245]; with_reducible exact H2_) | (have H2_ := (Option.bind_some _ _).symm.trans H; with_reducible exact H2_) | with_reducible exact H | (rw [hy245]; exact H) | exact H
                have Ny245 := Aside0.mk hy245
                clear hy245
                replace H := Option.bind_eq_some_iff.mp H
                obtain ⟨t248, A200, H⟩ := H
                replace H : (if t248 = true then ((winch_Swept.f y190 150).bind fun t249 => ((skiarearef46_SameInts.f k t249 (([5, 7, 9] : List Int))).bind fun t255 => (if t255 = true then ((winch_Swept.f y190 200).bind fun t256 => ((skiarearef46_SameInts.f k t256 (([7] : List Int))).bind fun t262 => (if t262 = true then ((winch_Swept.f y190 300).bind fun t263 => (if (t263.length : Int) = 0 then ((winch_Free.f k y190 7 0 150).bind fun t266 => (if t266 = true then ((winch_Free.f k y190 7 0 151).bind fun t267 => (some (!t267))) else (none))) else (none))) else (none)))) else (none)))) else (none)) = some r := H
                have A20 := Aside0.mk A200
                clear A200
                by_cases c21 : t248 = true
                · subst c21
                  have H1 : ((winch_Swept.f y190 150).bind fun t249 => ((skiarearef46_SameInts.f k t249 (([5, 7, 9] : List Int))).bind fun t255 => (if t255 = true then ((winch_Swept.f y190 200).bind fun t256 => ((skiarearef46_SameInts.f k t256 (([7] : List Int))).bind fun t262 => (if t262 = true then ((winch_Swept.f y190 300).bind fun t263 => (if (t263.length : Int) = 0 then ((winch_Free.f k y190 7 0 150).bind fun t266 => (if t266 = true then ((winch_Free.f k y190 7 0 151).bind fun t267 => (some (!t267))) else (none))) else (none))) else (none)))) else (none)))) = some r := by rw [if_pos rfl] at H; exact H
                  clear H
                  have H := H1
                  clear H1
                  replace H := Option.bind_eq_some_iff.mp H
                  obtain ⟨t249, A220, H⟩ := H
                  replace H : ((skiarearef46_SameInts.f k t249 (([5, 7, 9] : List Int))).bind fun t255 => (if t255 = true then ((winch_Swept.f y190 200).bind fun t256 => ((skiarearef46_SameInts.f k t256 (([7] : List Int))).bind fun t262 => (if t262 = true then ((winch_Swept.f y190 300).bind fun t263 => (if (t263.length : Int) = 0 then ((winch_Free.f k y190 7 0 150).bind fun t266 => (if t266 = true then ((winch_Free.f k y190 7 0 151).bind fun t267 => (some (!t267))) else (none))) else (none))) else (none)))) else (none))) = some r := H
                  have A22 := Aside0.mk A220
                  clear A220
                  obtain ⟨y252, hy252⟩ : ∃ y_ : List Int, y_ = (([5, 7, 9] : List Int)) := ⟨_, rfl⟩
                  replace H : ((skiarearef46_SameInts.f k t249 y252).bind fun t255 => (if t255 = true then ((winch_Swept.f y190 200).bind fun t256 => ((skiarearef46_SameInts.f k t256 (([7] : List Int))).bind fun t262 => (if t262 = true then ((winch_Swept.f y190 300).bind fun t263 => (if (t263.length : Int) = 0 then ((winch_Free.f k y190 7 0 150).bind fun t266 => (if t266 = true then ((winch_Free.f k y190 7 0 151).bind fun t267 => (some (!t267))) else (none))) else (none))) else (none)))) else (none))) = some r := by first | (rw [hy252]; with_reducible exact H) | (have H2_ := (Option.bind_some _ _).symm.trans H; rw [hy252]; with_reducible exact H2_) | (have H2_ := (Option.bind_some _ _).symm.trans H; with_reducible exact H2_) | with_reducible exact H | (rw [hy252]; exact H) | exact H
                  have Ny252 := Aside0.mk hy252
                  clear hy252
                  replace H := Option.bind_eq_some_iff.mp H
                  obtain ⟨t255, A230, H⟩ := H
                  replace H : (if t255 = true then ((winch_Swept.f y190 200).bind fun t256 => ((skiarearef46_SameInts.f k t256 (([7] : List Int))).bind fun t262 => (if t262 = true then ((winch_Swept.f y190 300).bind fun t263 => (if (t263.length : Int) = 0 then ((winch_Free.f k y190 7 0 150).bind fun t266 => (if t266 = true then ((winch_Free.f k y190 7 0 151).bind fun t267 => (some (!t267))) else (none))) else (none))) else (none)))) else (none)) = some r := H
                  have A23 := Aside0.mk A230
                  clear A230
                  by_cases c24 : t255 = true
                  · subst c24
                    have H1 : ((winch_Swept.f y190 200).bind fun t256 => ((skiarearef46_SameInts.f k t256 (([7] : List Int))).bind fun t262 => (if t262 = true then ((winch_Swept.f y190 300).bind fun t263 => (if (t263.length : Int) = 0 then ((winch_Free.f k y190 7 0 150).bind fun t266 => (if t266 = true then ((winch_Free.f k y190 7 0 151).bind fun t267 => (some (!t267))) else (none))) else (none))) else (none)))) = some r := by rw [if_pos rfl] at H; exact H
                    clear H
                    have H := H1
                    clear H1
                    replace H := Option.bind_eq_some_iff.mp H
                    obtain ⟨t256, A250, H⟩ := H
                    replace H : ((skiarearef46_SameInts.f k t256 (([7] : List Int))).bind fun t262 => (if t262 = true then ((winch_Swept.f y190 300).bind fun t263 => (if (t263.length : Int) = 0 then ((winch_Free.f k y190 7 0 150).bind fun t266 => (if t266 = true then ((winch_Free.f k y190 7 0 151).bind fun t267 => (some (!t267))) else (none))) else (none))) else (none))) = some r := H
                    have A25 := Aside0.mk A250
                    clear A250
                    obtain ⟨y259, hy259⟩ : ∃ y_ : List Int, y_ = (([7] : List Int)) := ⟨_, rfl⟩
                    replace H : ((skiarearef46_SameInts.f k t256 y259).bind fun t262 => (if t262 = true then ((winch_Swept.f y190 300).bind fun t263 => (if (t263.length : Int) = 0 then ((winch_Free.f k y190 7 0 150).bind fun t266 => (if t266 = true then ((winch_Free.f k y190 7 0 151).bind fun t267 => (some (!t267))) else (none))) else (none))) else (none))) = some r := by first | (rw [hy259]; with_reducible exact H) | (have H2_ := (Option.bind_some _ _).symm.trans H; rw [hy259]; with_reducible exact H2_) | (have H2_ := (Option.bind_some _ _).symm.trans H; with_reducible exact H2_) | with_reducible exact H | (rw [hy259]; exact H) | exact H
                    have Ny259 := Aside0.mk hy259
                    clear hy259
                    replace H := Option.bind_eq_some_iff.mp H
                    obtain ⟨t262, A260, H⟩ := H
                    replace H : (if t262 = true then ((winch_Swept.f y190 300).bind fun t263 => (if (t263.length : Int) = 0 then ((winch_Free.f k y190 7 0 150).bind fun t266 => (if t266 = true then ((winch_Free.f k y190 7 0 151).bind fun t267 => (some (!t267))) else (none))) else (none))) else (none)) = some r := H
                    have A26 := Aside0.mk A260
                    clear A260
                    by_cases c27 : t262 = true
                    · subst c27
                      have H1 : ((winch_Swept.f y190 300).bind fun t263 => (if (t263.length : Int) = 0 then ((winch_Free.f k y190 7 0 150).bind fun t266 => (if t266 = true then ((winch_Free.f k y190 7 0 151).bind fun t267 => (some (!t267))) else (none))) else (none))) = some r := by rw [if_pos rfl] at H; exact H
                      clear H
                      have H := H1
                      clear H1
                      replace H := Option.bind_eq_some_iff.mp H
                      obtain ⟨t263, A280, H⟩ := H
                      replace H : (if (t263.length : Int) = 0 then ((winch_Free.f k y190 7 0 150).bind fun t266 => (if t266 = true then ((winch_Free.f k y190 7 0 151).bind fun t267 => (some (!t267))) else (none))) else (none)) = some r := H
                      have A28 := Aside0.mk A280
                      clear A280
                      by_cases c29 : (t263.length : Int) = 0
                      · rw [if_pos c29] at H
                        have c29b0 : ((t263.length : Int) == 0) = true := beq_iff_eq.mpr c29
                        have c29b1 : ((t263.length : Int) != 0) = false := bne_eq_false_iff_eq.mpr c29
                        clear c29
                        replace H := Option.bind_eq_some_iff.mp H
                        obtain ⟨t266, A300, H⟩ := H
                        replace H : (if t266 = true then ((winch_Free.f k y190 7 0 151).bind fun t267 => (some (!t267))) else (none)) = some r := H
                        have A30 := Aside0.mk A300
                        clear A300
                        by_cases c31 : t266 = true
                        · subst c31
                          have H1 : ((winch_Free.f k y190 7 0 151).bind fun t267 => (some (!t267))) = some r := by rw [if_pos rfl] at H; exact H
                          clear H
                          have H := H1
                          clear H1
                          replace H := Option.bind_eq_some_iff.mp H
                          obtain ⟨t267, A320, H⟩ := H
                          replace H : (some (!t267)) = some r := H
                          have A32 := Aside0.mk A320
                          clear A320
                          obtain rfl := Option.some.inj H
                          go_enter Try.func10, Try.ntmps10
                          try go_wp2_with (first | ((with_reducible refine gate_dst (N := 8) rfl ?_); (try (refine gate_guard (by rfl) ?_; dsimp only)); refine Kd.R_lit (Kd.int .i64) _ 3 ?hg (N := 8) ?hd (xs := ([5, 9] : List Int)) (inner := [.int .i64 5, .int .i64 9]) (ok := fun _ => True) (okp := fun _ => True) ?hr ?hp (fun _ hk => hk) trivial (Below.refl _ _) (Nat.le_refl _) (by simp) ?_; (case hd => rfl); (case hg => rfl); (case hr => first | (go_simp; done) | (go_simp; rfl)); (case hp => exact (Reps.one (show Kd.M (Kd.int .i64) _ _ _ 5 [.int .i64 5] from rfl) (Reps.one (show Kd.M (Kd.int .i64) _ _ _ 9 [.int .i64 9] from rfl) (Reps.none _ _)))); intro v173 w33 ho34 hb hg_ hnew_; clear hg_ hnew_; (first | rw [← Ny172.out] at ho34 | (simp only [Int.reduceToNat] at ho34; rw [← Ny172.out] at ho34)); have n0_ := Aside0.mk (Kd.R_lower ho34 (below_size (by repeat (first | (with_reducible first | exact HB.out | apply below_alloc | apply pw_below_drewN | apply below_drew1) | exact HB.out)))); have n1_ := Aside0.mk (below_step (by repeat (first | (with_reducible first | exact HB.out | apply below_alloc | apply pw_below_drewN | apply below_drew1) | exact HB.out)) hb); clear HB; have HO174 := n0_; have HB := n1_; clear n0_ n1_; clear hb ho34; obtain ⟨Ao35, co35, eo35⟩ := Kd.R_slice HO174.out; subst eo35) | ((with_reducible refine gate_callee (f := 26) rfl ?_); refine goesL_ (some 9) rfl rfl Try.func26 (by kernel_rfl) rfl #[.int .i64 1, .int .i64 100, .int .i64 200, .slice Ao35 y172.length co35] rfl (by (try simp only [List.map_toArray, List.map_cons, List.map_nil]); first | done | rfl | (simp only [List.length_drop, List.length_take]; rfl)) ?_; (with_reducible refine (skiarealaw46_rope.calls 1 100 200 (fun k_ => some k_ = (.slice Ao35 y172.length co35 : Value).ownBlock) (.slice Ao35 y172.length co35) y172 t175 t176 t177 t178 w _ ?side1 ?side2 A1.out).mono ?_); (case side1 => repeat (first | (with_reducible first | exact HB.out | apply below_alloc | apply pw_below_drewN | apply below_drew1) | exact HB.out)); (case side2 => exact Kd.R_tight rfl HO174.out); rintro e w36 ⟨v179, rfl, ho0, hb, hkp⟩; refine ⟨_, rfl, ?_⟩; have n0_ := Aside0.mk (Kd.R_mono (ok' := fun k_ => True) ho0 (fun k_ hk_ => trivial)); have n1_ := Aside0.mk (hb); clear HB; clear HO174; have HO180 := n0_; have HB := n1_; clear n0_ n1_; (try clear hb); (try clear hkp); (try clear ho0)) | ((with_reducible refine gate_dst (N := 10) rfl ?_); (try (refine gate_guard (by rfl) ?_; dsimp only)); refine Kd.R_lit (Kd.int .i64) _ 3 ?hg (N := 10) ?hd (xs := ([7] : List Int)) (inner := [.int .i64 7]) (ok := fun _ => True) (okp := fun _ => True) ?hr ?hp (fun _ hk => hk) trivial (Below.refl _ _) (Nat.le_refl _) (by simp) ?_; (case hd => rfl); (case hg => rfl); (case hr => first | (go_simp; done) | (go_simp; rfl)); (case hp => exact (Reps.one (show Kd.M (Kd.int .i64) _ _ _ 7 [.int .i64 7] from rfl) (Reps.none _ _))); intro v182 w37 ho38 hb hg_ hnew_; clear hg_ hnew_; (first | rw [← Ny181.out] at ho38 | (simp only [Int.reduceToNat] at ho38; rw [← Ny181.out] at ho38)); have n0_ := Aside0.mk (Kd.R_elder' (by (with_reducible repeat (first | apply Kd.R_alloc | apply Kd.R_drewN | apply Kd.R_drew)); exact HO180.out) (Kd.R_base ho38) hb); have n1_ := Aside0.mk (Kd.R_lower (Kd.R_new' ho38 (Kd.R_lt (by (with_reducible repeat (first | apply Kd.R_alloc | apply Kd.R_drewN | apply Kd.R_drew)); exact HO180.out))) (below_size (by repeat (first | (with_reducible first | exact HB.out | apply below_alloc | apply pw_below_drewN | apply below_drew1) | exact HB.out)))); have n2_ := Aside0.mk (below_step (by repeat (first | (with_reducible first | exact HB.out | apply below_alloc | apply pw_below_drewN | apply below_drew1) | exact HB.out)) hb); clear HO180; clear HB; have HO180 := n0_; have HO183 := n1_; have HB := n2_; clear n0_ n1_ n2_; clear hb ho38; obtain ⟨Ao39, co39, eo39⟩ := Kd.R_slice HO183.out; subst eo39) | ((with_reducible refine gate_callee (f := 26) rfl ?_); refine goesL_ (some 11) rfl rfl Try.func26 (by kernel_rfl) rfl #[.int .i64 2, .int .i64 150, .int .i64 300, .slice Ao39 y181.length co39] rfl (by (try simp only [List.map_toArray, List.map_cons, List.map_nil]); first | done | rfl | (simp only [List.length_drop, List.length_take]; rfl)) ?_; (with_reducible refine (skiarealaw46_rope.calls 2 150 300 (fun k_ => some k_ = (.slice Ao39 y181.length co39 : Value).ownBlock) (.slice Ao39 y181.length co39) y181 t184 t185 t186 t187 w _ ?side1 ?side2 A2.out).mono ?_); (case side1 => repeat (first | (with_reducible first | exact HB.out | apply below_alloc | apply pw_below_drewN | apply below_drew1) | exact HB.out)); (case side2 => exact Kd.R_tight rfl HO183.out); rintro e w40 ⟨v188, rfl, ho0, hb, hkp⟩; refine ⟨_, rfl, ?_⟩; have n0_ := Aside0.mk (Kd.R_mono (ok' := fun k_ => some k_ ≠ (v188 : Value).ownBlock) (Kd.R_keptB (HO180.out) hkp (fun k_ hk_ hs_ => (hk_.2) hs_)) (fun k_ hk_ => fun e_ => Or.elim (ho0.1 k_ e_.symm) (fun hs_ => hk_.2.1 hs_) (fun hn_ => Nat.not_le.2 hk_.2.2 hn_))); have n1_ := Aside0.mk (Kd.R_mono (ok' := fun k_ => some k_ ≠ (v179 : Value).ownBlock) ho0 (fun k_ hk_ => Or.elim hk_ (fun hs_ => fun e_ => (((HO180.out).1 k_ e_.symm).2) hs_) (fun hn_ => (Kd.fresh' (Kd.R_lt (by (with_reducible repeat (first | apply Kd.R_alloc | apply Kd.R_drewN | apply Kd.R_drew)); exact HO180.out)) k_ hn_)))); have n2_ := Aside0.mk (hb); clear HO180; clear HB; clear HO183; have HO180 := n0_; have HO189 := n1_; have HB := n2_; clear n0_ n1_ n2_; (try clear hb); (try clear hkp); (try clear ho0); obtain ⟨Ao41, co41, eo41⟩ := Kd.R_slice HO180.out; subst eo41; obtain ⟨Ao42, co42, eo42⟩ := Kd.R_slice HO189.out; subst eo42) | ((with_reducible refine gate_dst (N := 12) rfl ?_); (try (refine gate_guard (by rfl) ?_; dsimp only)); refine Kd.N_lit k29 _ 29 ?hg (N' := 12) ?hd (xs := ([(⟨t175, t176, t177, t178⟩ : S29), (⟨t184, t185, t186, t187⟩ : S29)] : List (S29))) (inner := [.int .i64 t175, .int .i64 t176, .int .i64 t177, .slice Ao41 t178.length co41, .int .i64 t184, .int .i64 t185, .int .i64 t186, .slice Ao42 t187.length co42]) (ok := (fun _ => True)) (okp := (fun _ => True)) ?hr ?hp (fun _ hk => hk) ((show ∀ k_, w40.heap.size ≤ k_ → (fun _ => True) k_ from fun k_ hk => trivial) _ (Nat.le_refl _)) (Below.refl _ _) (Nat.le_refl _) (by simp) ?_; (case hd => rfl); (case hg => rfl); (case hr => first | (go_simp; done) | (go_simp; rfl)); (case hp => exact (Reps.c4 (show Kd.FK k29 _ _ (⟨t175, t176, t177, t178⟩ : S29) [.int .i64 t175, .int .i64 t176, .int .i64 t177, .slice Ao41 t178.length co41] from (k29_mkF _ _ (⟨t175, t176, t177, t178⟩ : S29) (Kd.R_reads' (Kd.R_mono (ok' := (fun _ => True)) (HO180.out) (fun k_ hk => trivial))).2.1 (Kd.R_F (Kd.R_mono (ok' := (fun _ => True)) (HO180.out) (fun k_ hk => trivial))))) (Reps.c4 (show Kd.FK k29 _ _ (⟨t184, t185, t186, t187⟩ : S29) [.int .i64 t184, .int .i64 t185, .int .i64 t186, .slice Ao42 t187.length co42] from (k29_mkF _ _ (⟨t184, t185, t186, t187⟩ : S29) (Kd.R_reads' (Kd.R_mono (ok' := (fun _ => True)) (HO189.out) (fun k_ hk => trivial))).2.1 (Kd.R_F (Kd.R_mono (ok' := (fun _ => True)) (HO189.out) (fun k_ hk => trivial))))) (Reps.none _ _)))); intro v191 w43 ho44 hb hg_ hnew_; clear hg_ hnew_; (first | rw [← Ny190.out] at ho44 | (simp only [Int.reduceToNat] at ho44; rw [← Ny190.out] at ho44)); have n0_ := Aside0.mk (Kd.N_lower ho44 (below_size (by repeat (first | (with_reducible first | exact HB.out | apply below_alloc | apply pw_below_drewN | apply below_drew1) | exact HB.out)))); have n1_ := Aside0.mk (below_step (by repeat (first | (with_reducible first | exact HB.out | apply below_alloc | apply pw_below_drewN | apply below_drew1) | exact HB.out)) hb); clear HB; clear HO180; clear HO189; have HO192 := n0_; have HB := n1_; clear n0_ n1_; clear hb ho44) | ((with_reducible refine gate_dst (N := 15) rfl ?_); (try (refine gate_guard (by rfl) ?_; dsimp only)); refine Kd.R_lit (Kd.int .i64) _ 3 ?hg (N := 15) ?hd (xs := ([9] : List Int)) (inner := [.int .i64 9]) (ok := fun _ => True) (okp := fun _ => True) ?hr ?hp (fun _ hk => hk) trivial (Below.refl _ _) (Nat.le_refl _) (by simp) ?_; (case hd => rfl); (case hg => rfl); (case hr => first | (go_simp; done) | (go_simp; rfl)); (case hp => exact (Reps.one (show Kd.M (Kd.int .i64) _ _ _ 9 [.int .i64 9] from rfl) (Reps.none _ _))); intro v194 w45 ho46 hb hg_ hnew_; clear hg_ hnew_; (first | rw [← Ny193.out] at ho46 | (simp only [Int.reduceToNat] at ho46; rw [← Ny193.out] at ho46)); have n0_ := Aside0.mk (Kd.N_elder' (by (with_reducible repeat (first | apply Kd.N_alloc | apply Kd.N_drewN | apply Kd.N_drew)); exact HO192.out) (Kd.R_base ho46) hb); have n1_ := Aside0.mk (Kd.R_lower ho46 (below_size (by repeat (first | (with_reducible first | exact HB.out | apply below_alloc | apply pw_below_drewN | apply below_drew1) | exact HB.out)))); have n2_ := Aside0.mk (below_step (by repeat (first | (with_reducible first | exact HB.out | apply below_alloc | apply pw_below_drewN | apply below_drew1) | exact HB.out)) hb); clear HO192; clear HB; have HO192 := n0_; have HO195 := n1_; have HB := n2_; clear n0_ n1_ n2_; clear hb ho46; obtain ⟨Ao47, co47, eo47⟩ := Kd.R_slice HO195.out; subst eo47) | ((with_reducible refine gate_callee (f := 26) rfl ?_); refine goesL_ (some 16) rfl rfl Try.func26 (by kernel_rfl) rfl #[.int .i64 3, .int .i64 199, .int .i64 250, .slice Ao47 y193.length co47] rfl (by (try simp only [List.map_toArray, List.map_cons, List.map_nil]); first | done | rfl | (simp only [List.length_drop, List.length_take]; rfl)) ?_; (with_reducible refine (skiarealaw46_rope.calls 3 199 250 (fun k_ => some k_ = (.slice Ao47 y193.length co47 : Value).ownBlock) (.slice Ao47 y193.length co47) y193 t196 t197 t198 t199 w _ ?side1 ?side2 A3.out).mono ?_); (case side1 => repeat (first | (with_reducible first | exact HB.out | apply below_alloc | apply pw_below_drewN | apply below_drew1) | exact HB.out)); (case side2 => exact Kd.R_tight rfl HO195.out); rintro e w48 ⟨v200, rfl, ho0, hb, hkp⟩; refine ⟨_, rfl, ?_⟩; have n0_ := Aside0.mk (Kd.N_mono (ok' := fun k_ => some k_ ≠ (v200 : Value).ownBlock) (Kd.N_keptB (HO192.out) hkp (fun k_ hk_ hs_ => (hk_.2) hs_)) (fun k_ hk_ => fun e_ => Or.elim (ho0.1 k_ e_.symm) (fun hs_ => hk_.2.1 hs_) (fun hn_ => Nat.not_le.2 hk_.2.2 hn_))); have n1_ := Aside0.mk (Kd.R_mono (ok' := fun k_ => True) ho0 (fun k_ hk_ => trivial)); have n2_ := Aside0.mk (hb); clear HO192; clear HB; clear HO195; have HO192 := n0_; have HO201 := n1_; have HB := n2_; clear n0_ n1_ n2_; (try clear hb); (try clear hkp); (try clear ho0); obtain ⟨Ao49, co49, eo49⟩ := Kd.N_slice HO192.out; subst eo49; obtain ⟨Ao50, co50, eo50⟩ := Kd.R_slice HO201.out; subst eo50) | ((with_reducible refine gate_callee (f := 15) rfl ?_); refine goesL_ (some 17) rfl rfl Try.func15 (by kernel_rfl) rfl #[.slice Ao49 y190.length co49, .agg #[.int .i64 t196, .int .i64 t197, .int .i64 t198, .slice Ao50 t199.length co50]] rfl (by (try simp only [List.map_toArray, List.map_cons, List.map_nil]); first | done | rfl | (simp only [List.length_drop, List.length_take]; rfl)) ?_; (with_reducible refine (winch_Lay.calls k _ _ y190 t196 t197 t198 _ _ t199 t202 t205 _ ?side1 ?side2 ?side3 ?side4 A4.out).mono ?_); (case side1 => repeat (first | exact (Kd.N_reads' HO192.out).2.2 | (with_reducible refine Kd.C_alloc ?_ _) | (with_reducible refine Kd.C_drewN ?_ _) | (with_reducible refine Kd.C_drew ?_))); (case side2 => exact (Kd.N_reads' HO192.out).2.1); (case side3 => repeat (first | exact (Kd.R_reads' HO201.out).2.2 | (with_reducible refine Kd.C_alloc ?_ _) | (with_reducible refine Kd.C_drewN ?_ _) | (with_reducible refine Kd.C_drew ?_))); (case side4 => exact (Kd.R_reads' HO201.out).2.1); rintro e w51 ⟨v203, rfl, ho0, hb⟩; refine ⟨_, rfl, ?_⟩; have n0_ := Aside0.mk (Kd.N_elder' (by (with_reducible repeat (first | apply Kd.N_alloc | apply Kd.N_drewN | apply Kd.N_drew)); exact HO192.out) (Kd.N_base ho0) hb); have n1_ := Aside0.mk (Kd.R_below (by (with_reducible repeat (first | apply Kd.R_alloc | apply Kd.R_drewN | apply Kd.R_drew)); exact HO201.out) hb); have n2_ := Aside0.mk (Kd.N_lower (Kd.N_mono (ok' := fun k_ => some k_ ≠ (.slice Ao49 y190.length co49 : Value).ownBlock ∧ some k_ ≠ (.slice Ao50 t199.length co50 : Value).ownBlock) ho0 (fun k_ hk_ => ⟨(Kd.fresh' (Kd.N_lt (by (with_reducible repeat (first | apply Kd.N_alloc | apply Kd.N_drewN | apply Kd.N_drew)); exact HO192.out)) k_ hk_), (Kd.fresh' (Kd.R_lt (by (with_reducible repeat (first | apply Kd.R_alloc | apply Kd.R_drewN | apply Kd.R_drew)); exact HO201.out)) k_ hk_)⟩)) (below_size (by repeat (first | (with_reducible first | exact HB.out | apply below_alloc | apply pw_below_drewN | apply below_drew1) | exact HB.out)))); have n3_ := Aside0.mk (below_step (by repeat (first | (with_reducible first | exact HB.out | apply below_alloc | apply pw_below_drewN | apply below_drew1) | exact HB.out)) hb); clear HO192; clear HO201; clear HB; have HO192 := n0_; have HO201 := n1_; have HO204 := n2_; have HB := n3_; clear n0_ n1_ n2_ n3_; (try clear hb); (try clear hb2); (try clear hk); (try clear hi); (try clear ho0)) | ((with_reducible refine gate_dst (N := 22) rfl ?_); (try (refine gate_guard (by rfl) ?_; dsimp only)); refine Kd.R_lit (Kd.int .i64) _ 3 ?hg (N := 22) ?hd (xs := ([9] : List Int)) (inner := [.int .i64 9]) (ok := fun _ => True) (okp := fun _ => True) ?hr ?hp (fun _ hk => hk) trivial (Below.refl _ _) (Nat.le_refl _) (by simp) ?_; (case hd => rfl); (case hg => rfl); (case hr => first | (go_simp; done) | (go_simp; rfl)); (case hp => exact (Reps.one (show Kd.M (Kd.int .i64) _ _ _ 9 [.int .i64 9] from rfl) (Reps.none _ _))); intro v207 w52 ho53 hb hg_ hnew_; clear hg_ hnew_; (first | rw [← Ny206.out] at ho53 | (simp only [Int.reduceToNat] at ho53; rw [← Ny206.out] at ho53)); have n0_ := Aside0.mk (Kd.N_elder' (by (with_reducible repeat (first | apply Kd.N_alloc | apply Kd.N_drewN | apply Kd.N_drew)); exact HO192.out) (Kd.R_base ho53) hb); have n1_ := Aside0.mk (Kd.R_elder' (by (with_reducible repeat (first | apply Kd.R_alloc | apply Kd.R_drewN | apply Kd.R_drew)); exact HO201.out) (Kd.R_base ho53) hb); have n2_ := Aside0.mk (Kd.N_elder' (by (with_reducible repeat (first | apply Kd.N_alloc | apply Kd.N_drewN | apply Kd.N_drew)); exact HO204.out) (Kd.R_base ho53) hb); have n3_ := Aside0.mk (Kd.R_lower (Kd.R_new' ho53 (Kd.R_lt (by (with_reducible repeat (first | apply Kd.R_alloc | apply Kd.R_drewN | apply Kd.R_drew)); exact HO201.out))) (below_size (by repeat (first | (with_reducible first | exact HB.out | apply below_alloc | apply pw_below_drewN | apply below_drew1) | exact HB.out)))); have n4_ := Aside0.mk (below_step (by repeat (first | (with_reducible first | exact HB.out | apply below_alloc | apply pw_below_drewN | apply below_drew1) | exact HB.out)) hb); clear HO192; clear HO201; clear HO204; clear HB; have HO192 := n0_; have HO201 := n1_; have HO204 := n2_; have HO208 := n3_; have HB := n4_; clear n0_ n1_ n2_ n3_ n4_; clear hb ho53; obtain ⟨Ao54, co54, eo54⟩ := Kd.R_slice HO208.out; subst eo54) | ((with_reducible refine gate_callee (f := 26) rfl ?_); refine goesL_ (some 23) rfl rfl Try.func26 (by kernel_rfl) rfl #[.int .i64 3, .int .i64 200, .int .i64 250, .slice Ao54 y206.length co54] rfl (by (try simp only [List.map_toArray, List.map_cons, List.map_nil]); first | done | rfl | (simp only [List.length_drop, List.length_take]; rfl)) ?_; (with_reducible refine (skiarealaw46_rope.calls 3 200 250 (fun k_ => some k_ = (.slice Ao54 y206.length co54 : Value).ownBlock) (.slice Ao54 y206.length co54) y206 t209 t210 t211 t212 w _ ?side1 ?side2 A5.out).mono ?_); (case side1 => repeat (first | (with_reducible first | exact HB.out | apply below_alloc | apply pw_below_drewN | apply below_drew1) | exact HB.out)); (case side2 => exact Kd.R_tight rfl HO208.out); rintro e w55 ⟨v213, rfl, ho0, hb, hkp⟩; refine ⟨_, rfl, ?_⟩; have n0_ := Aside0.mk (Kd.N_mono (ok' := fun k_ => some k_ ≠ (.slice Ao50 t199.length co50 : Value).ownBlock ∧ some k_ ≠ (v203 : Value).ownBlock ∧ some k_ ≠ (v213 : Value).ownBlock) (Kd.N_keptB (HO192.out) hkp (fun k_ hk_ hs_ => (hk_.2) hs_)) (fun k_ hk_ => ⟨hk_.1.1.1, hk_.1.1.2, fun e_ => Or.elim (ho0.1 k_ e_.symm) (fun hs_ => hk_.2.1 hs_) (fun hn_ => Nat.not_le.2 hk_.2.2 hn_)⟩)); have n1_ := Aside0.mk (Kd.R_mono (ok' := fun k_ => some k_ ≠ (v213 : Value).ownBlock) (Kd.R_keptB (HO201.out) hkp (fun k_ hk_ hs_ => (hk_.2) hs_)) (fun k_ hk_ => fun e_ => Or.elim (ho0.1 k_ e_.symm) (fun hs_ => hk_.2.1 hs_) (fun hn_ => Nat.not_le.2 hk_.2.2 hn_))); have n2_ := Aside0.mk (Kd.N_mono (ok' := fun k_ => some k_ ≠ (.slice Ao49 y190.length co49 : Value).ownBlock ∧ some k_ ≠ (.slice Ao50 t199.length co50 : Value).ownBlock ∧ some k_ ≠ (v213 : Value).ownBlock) (Kd.N_keptB (HO204.out) hkp (fun k_ hk_ hs_ => (hk_.2) hs_)) (fun k_ hk_ => ⟨hk_.1.1.1, hk_.1.1.2, fun e_ => Or.elim (ho0.1 k_ e_.symm) (fun hs_ => hk_.2.1 hs_) (fun hn_ => Nat.not_le.2 hk_.2.2 hn_)⟩)); have n3_ := Aside0.mk (Kd.R_mono (ok' := fun k_ => some k_ ≠ (.slice Ao50 t199.length co50 : Value).ownBlock) ho0 (fun k_ hk_ => Or.elim hk_ (fun hs_ => fun e_ => (((HO201.out).1 k_ e_.symm).2) hs_) (fun hn_ => (Kd.fresh' (Kd.R_lt (by (with_reducible repeat (first | apply Kd.R_alloc | apply Kd.R_drewN | apply Kd.R_drew)); exact HO201.out)) k_ hn_)))); have n4_ := Aside0.mk (hb); clear HO192; clear HO201; clear HO204; clear HB; clear HO208; have HO192 := n0_; have HO201 := n1_; have HO204 := n2_; have HO214 := n3_; have HB := n4_; clear n0_ n1_ n2_ n3_ n4_; (try clear hb); (try clear hkp); (try clear ho0); obtain ⟨Ao56, co56, eo56⟩ := Kd.R_slice HO214.out; subst eo56) | ((with_reducible refine gate_callee (f := 15) rfl ?_); refine goesL_ (some 24) rfl rfl Try.func15 (by kernel_rfl) rfl #[.slice Ao49 y190.length co49, .agg #[.int .i64 t209, .int .i64 t210, .int .i64 t211, .slice Ao56 t212.length co56]] rfl (by (try simp only [List.map_toArray, List.map_cons, List.map_nil]); first | done | rfl | (simp only [List.length_drop, List.length_take]; rfl)) ?_; (with_reducible refine (winch_Lay.calls k _ _ y190 t209 t210 t211 _ _ t212 t215 t218 _ ?side1 ?side2 ?side3 ?side4 A6.out).mono ?_); (case side1 => repeat (first | exact (Kd.N_reads' HO192.out).2.2 | (with_reducible refine Kd.C_alloc ?_ _) | (with_reducible refine Kd.C_drewN ?_ _) | (with_reducible refine Kd.C_drew ?_))); (case side2 => exact (Kd.N_reads' HO192.out).2.1); (case side3 => repeat (first | exact (Kd.R_reads' HO214.out).2.2 | (with_reducible refine Kd.C_alloc ?_ _) | (with_reducible refine Kd.C_drewN ?_ _) | (with_reducible refine Kd.C_drew ?_))); (case side4 => exact (Kd.R_reads' HO214.out).2.1); rintro e w57 ⟨v216, rfl, ho0, hb⟩; refine ⟨_, rfl, ?_⟩; have n0_ := Aside0.mk (Kd.N_elder' (by (with_reducible repeat (first | apply Kd.N_alloc | apply Kd.N_drewN | apply Kd.N_drew)); exact HO192.out) (Kd.N_base ho0) hb); have n1_ := Aside0.mk (Kd.R_below (by (with_reducible repeat (first | apply Kd.R_alloc | apply Kd.R_drewN | apply Kd.R_drew)); exact HO201.out) hb); have n2_ := Aside0.mk (Kd.N_elder' (by (with_reducible repeat (first | apply Kd.N_alloc | apply Kd.N_drewN | apply Kd.N_drew)); exact HO204.out) (Kd.N_base ho0) hb); have n3_ := Aside0.mk (Kd.R_below (by (with_reducible repeat (first | apply Kd.R_alloc | apply Kd.R_drewN | apply Kd.R_drew)); exact HO214.out) hb); have n4_ := Aside0.mk (Kd.N_lower (Kd.N_mono (ok' := fun k_ => some k_ ≠ (.slice Ao49 y190.length co49 : Value).ownBlock ∧ some k_ ≠ (.slice Ao50 t199.length co50 : Value).ownBlock ∧ some k_ ≠ (v203 : Value).ownBlock ∧ some k_ ≠ (.slice Ao56 t212.length co56 : Value).ownBlock) ho0 (fun k_ hk_ => ⟨(Kd.fresh' (Kd.N_lt (by (with_reducible repeat (first | apply Kd.N_alloc | apply Kd.N_drewN | apply Kd.N_drew)); exact HO192.out)) k_ hk_), (Kd.fresh' (Kd.R_lt (by (with_reducible repeat (first | apply Kd.R_alloc | apply Kd.R_drewN | apply Kd.R_drew)); exact HO201.out)) k_ hk_), (Kd.fresh' (Kd.N_lt (by (with_reducible repeat (first | apply Kd.N_alloc | apply Kd.N_drewN | apply Kd.N_drew)); exact HO204.out)) k_ hk_), (Kd.fresh' (Kd.R_lt (by (with_reducible repeat (first | apply Kd.R_alloc | apply Kd.R_drewN | apply Kd.R_drew)); exact HO214.out)) k_ hk_)⟩)) (below_size (by repeat (first | (with_reducible first | exact HB.out | apply below_alloc | apply pw_below_drewN | apply below_drew1) | exact HB.out)))); have n5_ := Aside0.mk (below_step (by repeat (first | (with_reducible first | exact HB.out | apply below_alloc | apply pw_below_drewN | apply below_drew1) | exact HB.out)) hb); clear HO192; clear HO201; clear HO204; clear HO214; clear HB; have HO192 := n0_; have HO201 := n1_; have HO204 := n2_; have HO214 := n3_; have HO217 := n4_; have HB := n5_; clear n0_ n1_ n2_ n3_ n4_ n5_; (try clear hb); (try clear hb2); (try clear hk); (try clear hi); (try clear ho0)) | ((with_reducible refine gate_dst (N := 29) rfl ?_); (try (refine gate_guard (by rfl) ?_; dsimp only)); refine Kd.R_lit (Kd.int .i64) _ 3 ?hg (N := 29) ?hd (xs := ([11] : List Int)) (inner := [.int .i64 11]) (ok := fun _ => True) (okp := fun _ => True) ?hr ?hp (fun _ hk => hk) trivial (Below.refl _ _) (Nat.le_refl _) (by simp) ?_; (case hd => rfl); (case hg => rfl); (case hr => first | (go_simp; done) | (go_simp; rfl)); (case hp => exact (Reps.one (show Kd.M (Kd.int .i64) _ _ _ 11 [.int .i64 11] from rfl) (Reps.none _ _))); intro v220 w58 ho59 hb hg_ hnew_; clear hg_ hnew_; (first | rw [← Ny219.out] at ho59 | (simp only [Int.reduceToNat] at ho59; rw [← Ny219.out] at ho59)); have n0_ := Aside0.mk (Kd.N_elder' (by (with_reducible repeat (first | apply Kd.N_alloc | apply Kd.N_drewN | apply Kd.N_drew)); exact HO192.out) (Kd.R_base ho59) hb); have n1_ := Aside0.mk (Kd.R_elder' (by (with_reducible repeat (first | apply Kd.R_alloc | apply Kd.R_drewN | apply Kd.R_drew)); exact HO201.out) (Kd.R_base ho59) hb); have n2_ := Aside0.mk (Kd.N_elder' (by (with_reducible repeat (first | apply Kd.N_alloc | apply Kd.N_drewN | apply Kd.N_drew)); exact HO204.out) (Kd.R_base ho59) hb); have n3_ := Aside0.mk (Kd.R_elder' (by (with_reducible repeat (first | apply Kd.R_alloc | apply Kd.R_drewN | apply Kd.R_drew)); exact HO214.out) (Kd.R_base ho59) hb); have n4_ := Aside0.mk (Kd.N_elder' (by (with_reducible repeat (first | apply Kd.N_alloc | apply Kd.N_drewN | apply Kd.N_drew)); exact HO217.out) (Kd.R_base ho59) hb); have n5_ := Aside0.mk (Kd.R_lower (Kd.R_new' (Kd.R_new' ho59 (Kd.R_lt (by (with_reducible repeat (first | apply Kd.R_alloc | apply Kd.R_drewN | apply Kd.R_drew)); exact HO201.out))) (Kd.R_lt (by (with_reducible repeat (first | apply Kd.R_alloc | apply Kd.R_drewN | apply Kd.R_drew)); exact HO214.out))) (below_size (by repeat (first | (with_reducible first | exact HB.out | apply below_alloc | apply pw_below_drewN | apply below_drew1) | exact HB.out)))); have n6_ := Aside0.mk (below_step (by repeat (first | (with_reducible first | exact HB.out | apply below_alloc | apply pw_below_drewN | apply below_drew1) | exact HB.out)) hb); clear HO192; clear HO201; clear HO204; clear HO214; clear HO217; clear HB; have HO192 := n0_; have HO201 := n1_; have HO204 := n2_; have HO214 := n3_; have HO217 := n4_; have HO221 := n5_; have HB := n6_; clear n0_ n1_ n2_ n3_ n4_ n5_ n6_; clear hb ho59; obtain ⟨Ao60, co60, eo60⟩ := Kd.R_slice HO221.out; subst eo60) | ((with_reducible refine gate_callee (f := 26) rfl ?_); refine goesL_ (some 30) rfl rfl Try.func26 (by kernel_rfl) rfl #[.int .i64 2, .int .i64 250, .int .i64 400, .slice Ao60 y219.length co60] rfl (by (try simp only [List.map_toArray, List.map_cons, List.map_nil]); first | done | rfl | (simp only [List.length_drop, List.length_take]; rfl)) ?_; (with_reducible refine (skiarealaw46_rope.calls 2 250 400 (fun k_ => some k_ = (.slice Ao60 y219.length co60 : Value).ownBlock) (.slice Ao60 y219.length co60) y219 t222 t223 t224 t225 w _ ?side1 ?side2 A7.out).mono ?_); (case side1 => repeat (first | (with_reducible first | exact HB.out | apply below_alloc | apply pw_below_drewN | apply below_drew1) | exact HB.out)); (case side2 => exact Kd.R_tight rfl HO221.out); rintro e w61 ⟨v226, rfl, ho0, hb, hkp⟩; refine ⟨_, rfl, ?_⟩; have n0_ := Aside0.mk (Kd.N_mono (ok' := fun k_ => some k_ ≠ (.slice Ao50 t199.length co50 : Value).ownBlock ∧ some k_ ≠ (v203 : Value).ownBlock ∧ some k_ ≠ (.slice Ao56 t212.length co56 : Value).ownBlock ∧ some k_ ≠ (v216 : Value).ownBlock ∧ some k_ ≠ (v226 : Value).ownBlock) (Kd.N_keptB (HO192.out) hkp (fun k_ hk_ hs_ => (hk_.2) hs_)) (fun k_ hk_ => ⟨hk_.1.1.1.1, hk_.1.1.1.2.1, hk_.1.1.1.2.2, hk_.1.1.2, fun e_ => Or.elim (ho0.1 k_ e_.symm) (fun hs_ => hk_.2.1 hs_) (fun hn_ => Nat.not_le.2 hk_.2.2 hn_)⟩)); have n1_ := Aside0.mk (Kd.R_mono (ok' := fun k_ => some k_ ≠ (.slice Ao56 t212.length co56 : Value).ownBlock ∧ some k_ ≠ (v226 : Value).ownBlock) (Kd.R_keptB (HO201.out) hkp (fun k_ hk_ hs_ => (hk_.2) hs_)) (fun k_ hk_ => ⟨hk_.1.1, fun e_ => Or.elim (ho0.1 k_ e_.symm) (fun hs_ => hk_.2.1 hs_) (fun hn_ => Nat.not_le.2 hk_.2.2 hn_)⟩)); have n2_ := Aside0.mk (Kd.N_mono (ok' := fun k_ => some k_ ≠ (.slice Ao49 y190.length co49 : Value).ownBlock ∧ some k_ ≠ (.slice Ao50 t199.length co50 : Value).ownBlock ∧ some k_ ≠ (.slice Ao56 t212.length co56 : Value).ownBlock ∧ some k_ ≠ (v216 : Value).ownBlock ∧ some k_ ≠ (v226 : Value).ownBlock) (Kd.N_keptB (HO204.out) hkp (fun k_ hk_ hs_ => (hk_.2) hs_)) (fun k_ hk_ => ⟨hk_.1.1.1.1, hk_.1.1.1.2.1, hk_.1.1.1.2.2, hk_.1.1.2, fun e_ => Or.elim (ho0.1 k_ e_.symm) (fun hs_ => hk_.2.1 hs_) (fun hn_ => Nat.not_le.2 hk_.2.2 hn_)⟩)); have n3_ := Aside0.mk (Kd.R_mono (ok' := fun k_ => some k_ ≠ (.slice Ao50 t199.length co50 : Value).ownBlock ∧ some k_ ≠ (v226 : Value).ownBlock) (Kd.R_keptB (HO214.out) hkp (fun k_ hk_ hs_ => (hk_.2) hs_)) (fun k_ hk_ => ⟨hk_.1.1, fun e_ => Or.elim (ho0.1 k_ e_.symm) (fun hs_ => hk_.2.1 hs_) (fun hn_ => Nat.not_le.2 hk_.2.2 hn_)⟩)); have n4_ := Aside0.mk (Kd.N_mono (ok' := fun k_ => some k_ ≠ (.slice Ao49 y190.length co49 : Value).ownBlock ∧ some k_ ≠ (.slice Ao50 t199.length co50 : Value).ownBlock ∧ some k_ ≠ (v203 : Value).ownBlock ∧ some k_ ≠ (.slice Ao56 t212.length co56 : Value).ownBlock ∧ some k_ ≠ (v226 : Value).ownBlock) (Kd.N_keptB (HO217.out) hkp (fun k_ hk_ hs_ => (hk_.2) hs_)) (fun k_ hk_ => ⟨hk_.1.1.1, hk_.1.1.2.1, hk_.1.1.2.2.1, hk_.1.1.2.2.2, fun e_ => Or.elim (ho0.1 k_ e_.symm) (fun hs_ => hk_.2.1 hs_) (fun hn_ => Nat.not_le.2 hk_.2.2 hn_)⟩)); have n5_ := Aside0.mk (Kd.R_mono (ok' := fun k_ => some k_ ≠ (.slice Ao50 t199.length co50 : Value).ownBlock ∧ some k_ ≠ (.slice Ao56 t212.length co56 : Value).ownBlock) ho0 (fun k_ hk_ => ⟨Or.elim hk_ (fun hs_ => fun e_ => (((HO201.out).1 k_ e_.symm).2) hs_) (fun hn_ => (Kd.fresh' (Kd.R_lt (by (with_reducible repeat (first | apply Kd.R_alloc | apply Kd.R_drewN | apply Kd.R_drew)); exact HO201.out)) k_ hn_)), Or.elim hk_ (fun hs_ => fun e_ => (((HO214.out).1 k_ e_.symm).2) hs_) (fun hn_ => (Kd.fresh' (Kd.R_lt (by (with_reducible repeat (first | apply Kd.R_alloc | apply Kd.R_drewN | apply Kd.R_drew)); exact HO214.out)) k_ hn_))⟩)); have n6_ := Aside0.mk (hb); clear HO192; clear HO201; clear HO204; clear HO214; clear HO217; clear HB; clear HO221; have HO192 := n0_; have HO201 := n1_; have HO204 := n2_; have HO214 := n3_; have HO217 := n4_; have HO227 := n5_; have HB := n6_; clear n0_ n1_ n2_ n3_ n4_ n5_ n6_; (try clear hb); (try clear hkp); (try clear ho0); obtain ⟨Ao62, co62, eo62⟩ := Kd.R_slice HO227.out; subst eo62) | ((with_reducible refine gate_callee (f := 15) rfl ?_); refine goesL_ (some 31) rfl rfl Try.func15 (by kernel_rfl) rfl #[.slice Ao49 y190.length co49, .agg #[.int .i64 t222, .int .i64 t223, .int .i64 t224, .slice Ao62 t225.length co62]] rfl (by (try simp only [List.map_toArray, List.map_cons, List.map_nil]); first | done | rfl | (simp only [List.length_drop, List.length_take]; rfl)) ?_; (with_reducible refine (winch_Lay.calls k _ _ y190 t222 t223 t224 _ _ t225 t228 t231 _ ?side1 ?side2 ?side3 ?side4 A8.out).mono ?_); (case side1 => repeat (first | exact (Kd.N_reads' HO192.out).2.2 | (with_reducible refine Kd.C_alloc ?_ _) | (with_reducible refine Kd.C_drewN ?_ _) | (with_reducible refine Kd.C_drew ?_))); (case side2 => exact (Kd.N_reads' HO192.out).2.1); (case side3 => repeat (first | exact (Kd.R_reads' HO227.out).2.2 | (with_reducible refine Kd.C_alloc ?_ _) | (with_reducible refine Kd.C_drewN ?_ _) | (with_reducible refine Kd.C_drew ?_))); (case side4 => exact (Kd.R_reads' HO227.out).2.1); rintro e w63 ⟨v229, rfl, ho0, hb⟩; refine ⟨_, rfl, ?_⟩; have n0_ := Aside0.mk (Kd.N_elder' (by (with_reducible repeat (first | apply Kd.N_alloc | apply Kd.N_drewN | apply Kd.N_drew)); exact HO192.out) (Kd.N_base ho0) hb); have n1_ := Aside0.mk (Kd.R_below (by (with_reducible repeat (first | apply Kd.R_alloc | apply Kd.R_drewN | apply Kd.R_drew)); exact HO201.out) hb); have n2_ := Aside0.mk (Kd.N_elder' (by (with_reducible repeat (first | apply Kd.N_alloc | apply Kd.N_drewN | apply Kd.N_drew)); exact HO204.out) (Kd.N_base ho0) hb); have n3_ := Aside0.mk (Kd.R_below (by (with_reducible repeat (first | apply Kd.R_alloc | apply Kd.R_drewN | apply Kd.R_drew)); exact HO214.out) hb); have n4_ := Aside0.mk (Kd.N_elder' (by (with_reducible repeat (first | apply Kd.N_alloc | apply Kd.N_drewN | apply Kd.N_drew)); exact HO217.out) (Kd.N_base ho0) hb); have n5_ := Aside0.mk (Kd.R_below (by (with_reducible repeat (first | apply Kd.R_alloc | apply Kd.R_drewN | apply Kd.R_drew)); exact HO227.out) hb); have n6_ := Aside0.mk (Kd.N_lower (Kd.N_mono (ok' := fun k_ => some k_ ≠ (.slice Ao49 y190.length co49 : Value).ownBlock ∧ some k_ ≠ (.slice Ao50 t199.length co50 : Value).ownBlock ∧ some k_ ≠ (v203 : Value).ownBlock ∧ some k_ ≠ (.slice Ao56 t212.length co56 : Value).ownBlock ∧ some k_ ≠ (v216 : Value).ownBlock ∧ some k_ ≠ (.slice Ao62 t225.length co62 : Value).ownBlock) ho0 (fun k_ hk_ => ⟨(Kd.fresh' (Kd.N_lt (by (with_reducible repeat (first | apply Kd.N_alloc | apply Kd.N_drewN | apply Kd.N_drew)); exact HO192.out)) k_ hk_), (Kd.fresh' (Kd.R_lt (by (with_reducible repeat (first | apply Kd.R_alloc | apply Kd.R_drewN | apply Kd.R_drew)); exact HO201.out)) k_ hk_), (Kd.fresh' (Kd.N_lt (by (with_reducible repeat (first | apply Kd.N_alloc | apply Kd.N_drewN | apply Kd.N_drew)); exact HO204.out)) k_ hk_), (Kd.fresh' (Kd.R_lt (by (with_reducible repeat (first | apply Kd.R_alloc | apply Kd.R_drewN | apply Kd.R_drew)); exact HO214.out)) k_ hk_), (Kd.fresh' (Kd.N_lt (by (with_reducible repeat (first | apply Kd.N_alloc | apply Kd.N_drewN | apply Kd.N_drew)); exact HO217.out)) k_ hk_), (Kd.fresh' (Kd.R_lt (by (with_reducible repeat (first | apply Kd.R_alloc | apply Kd.R_drewN | apply Kd.R_drew)); exact HO227.out)) k_ hk_)⟩)) (below_size (by repeat (first | (with_reducible first | exact HB.out | apply below_alloc | apply pw_below_drewN | apply below_drew1) | exact HB.out)))); have n7_ := Aside0.mk (below_step (by repeat (first | (with_reducible first | exact HB.out | apply below_alloc | apply pw_below_drewN | apply below_drew1) | exact HB.out)) hb); clear HO192; clear HO201; clear HO204; clear HO214; clear HO217; clear HO227; clear HB; have HO192 := n0_; have HO201 := n1_; have HO204 := n2_; have HO214 := n3_; have HO217 := n4_; have HO227 := n5_; have HO230 := n6_; have HB := n7_; clear n0_ n1_ n2_ n3_ n4_ n5_ n6_ n7_; (try clear hb); (try clear hb2); (try clear hk); (try clear hi); (try clear ho0)))
                          have n0_ := Aside0.mk (Kd.N_drew HO192.out)
                          have n1_ := Aside0.mk (Kd.R_drew HO201.out)
                          have n2_ := Aside0.mk (Kd.N_drew HO204.out)
                          have n3_ := Aside0.mk (Kd.R_drew HO214.out)
                          have n4_ := Aside0.mk (Kd.N_drew HO217.out)
                          have n5_ := Aside0.mk (Kd.R_drew HO227.out)
                          have n6_ := Aside0.mk (Kd.N_drew HO230.out)
                          have n7_ := Aside0.mk (below_drew1 HB.out)
                          clear HO192
                          clear HO201
                          clear HO204
                          clear HO214
                          clear HO217
                          clear HO227
                          clear HO230
                          clear HB
                          have HO192 := n0_
                          have HO201 := n1_
                          have HO204 := n2_
                          have HO214 := n3_
                          have HO217 := n4_
                          have HO227 := n5_
                          have HO230 := n6_
                          have HB := n7_
                          clear n0_ n1_ n2_ n3_ n4_ n5_ n6_ n7_
                          refine start_ (n := 28) (S := fun w' => True) (ds := []) #[false, false, false, false, false, false, false, false, false, false, false, false, false, false, false, false, false, false, false, false, false, false, false, false, false, false, false, false] (by kernel_rfl) rfl rfl trivial (fun hHeld => ?_); refine with_tabW skiarealaw46_alive.tab5 skiarealaw46_alive.bits5 (fun HT_ HW_ => ?_)
                          generalize w63.drew = w64 at HO192 HO201 HO204 HO214 HO217 HO227 HO230 HB hHeld ⊢
                          refine pure_ (i := 0) (N := some 34) (v := ?_) (a' := ?_) #[true, false, false, false, false, false, false, false, false, false, false, false, false, false, false, false, false, false, false, false, false, false, false, false, false, false, false, false] rfl rfl (any_of HT_.out (by kernel_rfl)) (fun _ _ _ h => h) (Or.inl ⟨by rfl, ?_⟩) ?_ ?_
                          rotate_left
                          · intro w'
                            go_simp
                            with_reducible rfl
                          rotate_left
                          · simp only [Act.put, List.setIfInBounds_toArray, List.set_cons_zero, List.set_cons_succ, i64_w, i32_w]
                            rfl
                          refine one_ (i := 1) (N := some 35) #[true, true, false, false, false, false, false, false, false, false, false, false, false, false, false, false, false, false, false, false, false, false, false, false, false, false, false, false] rfl rfl (one_of HT_.out (by kernel_rfl)) (by decide) (fun K hK => ?_)
                          refine goes_ Try.func12 (by kernel_rfl) rfl #[.slice Ao49 y190.length co49] (by rfl) rfl rfl (by (try simp only [List.map_toArray, List.map_cons, List.map_nil]); first | done | rfl | (simp only [List.length_drop, List.length_take]; rfl)) ?_
                          with_reducible refine (winch_Right.calls k _ _ y190 t232 _ ?side1 ?side2 A9.out).mono ?_
                          (case side1 => repeat (first | exact (Kd.N_reads' HO192.out).2.2 | (with_reducible refine Kd.C_alloc ?_ _) | (with_reducible refine Kd.C_drewN ?_ _) | (with_reducible refine Kd.C_drew ?_)))
                          (case side2 => exact (Kd.N_reads' HO192.out).2.1)
                          rintro e w65 ⟨rfl, hb⟩
                          refine ⟨_, rfl, ?_⟩
                          have n0_ := Aside0.mk (Kd.N_below (by (with_reducible repeat (first | apply Kd.N_alloc | apply Kd.N_drewN | apply Kd.N_drew)); exact HO192.out) hb)
                          have n1_ := Aside0.mk (Kd.R_below (by (with_reducible repeat (first | apply Kd.R_alloc | apply Kd.R_drewN | apply Kd.R_drew)); exact HO201.out) hb)
                          have n2_ := Aside0.mk (Kd.N_below (by (with_reducible repeat (first | apply Kd.N_alloc | apply Kd.N_drewN | apply Kd.N_drew)); exact HO204.out) hb)
                          have n3_ := Aside0.mk (Kd.R_below (by (with_reducible repeat (first | apply Kd.R_alloc | apply Kd.R_drewN | apply Kd.R_drew)); exact HO214.out) hb)
                          have n4_ := Aside0.mk (Kd.N_below (by (with_reducible repeat (first | apply Kd.N_alloc | apply Kd.N_drewN | apply Kd.N_drew)); exact HO217.out) hb)
                          have n5_ := Aside0.mk (Kd.R_below (by (with_reducible repeat (first | apply Kd.R_alloc | apply Kd.R_drewN | apply Kd.R_drew)); exact HO227.out) hb)
                          have n6_ := Aside0.mk (Kd.N_below (by (with_reducible repeat (first | apply Kd.N_alloc | apply Kd.N_drewN | apply Kd.N_drew)); exact HO230.out) hb)
                          have n7_ := Aside0.mk (below_step (by repeat (first | (with_reducible first | exact HB.out | apply below_alloc | apply pw_below_drewN | apply below_drew1) | exact HB.out)) hb)
                          clear HO192
                          clear HO201
                          clear HO204
                          clear HO214
                          clear HO217
                          clear HO227
                          clear HO230
                          clear HB
                          have HO192 := n0_
                          have HO201 := n1_
                          have HO204 := n2_
                          have HO214 := n3_
                          have HO217 := n4_
                          have HO227 := n5_
                          have HO230 := n6_
                          have HB := n7_
                          clear n0_ n1_ n2_ n3_ n4_ n5_ n6_ n7_
                          (try clear hb)
                          (try clear hb2)
                          (try clear hk)
                          (try clear hi)
                          obtain ⟨Ao66, co66, eo66⟩ := Kd.N_slice HO217.out
                          (first | subst eo66 | (injection eo66 with f1_ f2_ f3_; have f4_ := f1_.symm; have f5_ := f3_.symm; clear f1_ f2_ f3_; subst f4_; subst f5_))
                          refine hK.out _ _ trivial (fun hHeld => ?_)
                          clear hK K
                          refine norm_ (a' := ?_) ?_ ?_
                          rotate_left
                          · show Act.put _ (some 35) _ = _
                            simp only [Act.put, List.setIfInBounds_toArray, List.set_cons_zero, List.set_cons_succ, i64_w, i32_w]
                            rfl
                          refine pure_ (i := 2) (N := some 36) (v := ?_) (a' := ?_) #[true, true, true, false, false, false, false, false, false, false, false, false, false, false, false, false, false, false, false, false, false, false, false, false, false, false, false, false] rfl rfl (any_of HT_.out (by kernel_rfl)) (fun _ _ _ h => h) (Or.inl ⟨by rfl, ?_⟩) ?_ ?_
                          rotate_left
                          · intro w'
                            go_simp
                            with_reducible rfl
                          rotate_left
                          · simp only [Act.put, List.setIfInBounds_toArray, List.set_cons_zero, List.set_cons_succ, i64_w, i32_w]
                            rfl
                          refine pure_ (i := 3) (N := some 37) (v := ?_) (a' := ?_) #[true, true, true, true, false, false, false, false, false, false, false, false, false, false, false, false, false, false, false, false, false, false, false, false, false, false, false, false] rfl rfl (any_of HT_.out (by kernel_rfl)) (fun _ _ _ h => h) (Or.inl ⟨by rfl, ?_⟩) ?_ ?_
                          rotate_left
                          · intro w'
                            go_simp
                            with_reducible rfl
                          rotate_left
                          · simp only [Act.put, List.setIfInBounds_toArray, List.set_cons_zero, List.set_cons_succ, i64_w, i32_w]
                            rfl
                          refine pure_ (i := 4) (N := some 38) (v := ?_) (a' := ?_) #[true, true, true, true, true, false, false, false, false, false, false, false, false, false, false, false, false, false, false, false, false, false, false, false, false, false, false, false] rfl rfl (any_of HT_.out (by kernel_rfl)) (fun _ _ _ h => h) (Or.inl ⟨by rfl, ?_⟩) ?_ ?_
                          rotate_left
                          · intro w'
                            go_simp
                            with_reducible rfl
                          rotate_left
                          · simp only [Act.put, List.setIfInBounds_toArray, List.set_cons_zero, List.set_cons_succ, i64_w, i32_w]
                            rfl
                          refine pure_ (i := 5) (N := some 39) (v := ?_) (a' := ?_) #[true, true, true, true, true, true, false, false, false, false, false, false, false, false, false, false, false, false, false, false, false, false, false, false, false, false, false, false] rfl rfl (any_of HT_.out (by kernel_rfl)) (fun _ _ _ h => h) (Or.inl ⟨by rfl, ?_⟩) ?_ ?_
                          rotate_left
                          · intro w'
                            go_simp
                            with_reducible rfl
                          rotate_left
                          · simp only [Act.put, List.setIfInBounds_toArray, List.set_cons_zero, List.set_cons_succ, i64_w, i32_w]
                            rfl
                          refine pure_ (i := 6) (N := some 40) (v := ?_) (a' := ?_) #[true, true, true, true, true, true, true, false, false, false, false, false, false, false, false, false, false, false, false, false, false, false, false, false, false, false, false, false] rfl rfl (any_of HT_.out (by kernel_rfl)) (fun _ _ _ h => h) (Or.inl ⟨by rfl, ?_⟩) ?_ ?_
                          rotate_left
                          · intro w'
                            go_simp
                            with_reducible rfl
                          rotate_left
                          · simp only [Act.put, List.setIfInBounds_toArray, List.set_cons_zero, List.set_cons_succ, i64_w, i32_w]
                            rfl
                          refine pure_ (i := 7) (N := some 41) (v := ?_) (a' := ?_) #[true, true, true, true, true, true, true, true, false, false, false, false, false, false, false, false, false, false, false, false, false, false, false, false, false, false, false, false] rfl rfl (any_of HT_.out (by kernel_rfl)) (fun _ _ _ h => h) (Or.inl ⟨by rfl, ?_⟩) ?_ ?_
                          rotate_left
                          · intro w'
                            go_simp
                            with_reducible rfl
                          rotate_left
                          · simp only [Act.put, List.setIfInBounds_toArray, List.set_cons_zero, List.set_cons_succ, i64_w, i32_w]
                            rfl
                          refine pure_ (i := 8) (N := some 42) (v := ?_) (a' := ?_) #[true, true, true, true, true, true, true, true, true, false, false, false, false, false, false, false, false, false, false, false, false, false, false, false, false, false, false, false] rfl rfl (any_of HT_.out (by kernel_rfl)) (fun _ _ _ h => h) (Or.inl ⟨by rfl, ?_⟩) ?_ ?_
                          rotate_left
                          · intro w'
                            go_simp
                            with_reducible rfl
                          rotate_left
                          · simp only [Act.put, List.setIfInBounds_toArray, List.set_cons_zero, List.set_cons_succ, i64_w, i32_w]
                            rfl
                          refine pure_ (i := 9) (N := some 43) (v := ?_) (a' := ?_) #[true, true, true, true, true, true, true, true, true, true, false, false, false, false, false, false, false, false, false, false, false, false, false, false, false, false, false, false] rfl rfl (any_of HT_.out (by kernel_rfl)) (fun _ _ _ h => h) (Or.inl ⟨by rfl, ?_⟩) ?_ ?_
                          rotate_left
                          · intro w'
                            go_simp
                            with_reducible rfl
                          rotate_left
                          · simp only [Act.put, List.setIfInBounds_toArray, List.set_cons_zero, List.set_cons_succ, i64_w, i32_w]
                            rfl
                          refine pure_ (i := 10) (N := some 44) (v := ?_) (a' := ?_) #[true, true, true, true, true, true, true, true, true, true, true, false, false, false, false, false, false, false, false, false, false, false, false, false, false, false, false, false] rfl rfl (any_of HT_.out (by kernel_rfl)) (fun _ _ _ h => h) (Or.inl ⟨by rfl, ?_⟩) ?_ ?_
                          rotate_left
                          · intro w'
                            go_simp
                            with_reducible rfl
                          rotate_left
                          · simp only [Act.put, List.setIfInBounds_toArray, List.set_cons_zero, List.set_cons_succ, i64_w, i32_w]
                            rfl
                          refine pure_ (i := 11) (N := some 45) (v := ?_) (a' := ?_) #[true, true, true, true, true, true, true, true, true, true, true, true, false, false, false, false, false, false, false, false, false, false, false, false, false, false, false, false] rfl rfl (any_of HT_.out (by kernel_rfl)) (fun _ _ _ h => h) (Or.inl ⟨by rfl, ?_⟩) ?_ ?_
                          rotate_left
                          · intro w'
                            go_simp
                            with_reducible rfl
                          rotate_left
                          · simp only [Act.put, List.setIfInBounds_toArray, List.set_cons_zero, List.set_cons_succ, i64_w, i32_w]
                            rfl
                          refine pure_ (i := 12) (N := some 46) (v := ?_) (a' := ?_) #[true, true, true, true, true, true, true, true, true, true, true, true, true, false, false, false, false, false, false, false, false, false, false, false, false, false, false, false] rfl rfl (any_of HT_.out (by kernel_rfl)) (fun _ _ _ h => h) (Or.inl ⟨by rfl, ?_⟩) ?_ ?_
                          rotate_left
                          · intro w'
                            go_simp
                            with_reducible rfl
                          rotate_left
                          · simp only [Act.put, List.setIfInBounds_toArray, List.set_cons_zero, List.set_cons_succ, i64_w, i32_w]
                            rfl
                          refine pure_ (i := 13) (N := some 47) (v := ?_) (a' := ?_) #[true, true, true, true, true, true, true, true, true, true, true, true, true, true, false, false, false, false, false, false, false, false, false, false, false, false, false, false] rfl rfl (any_of HT_.out (by kernel_rfl)) (fun _ _ _ h => h) (Or.inl ⟨by rfl, ?_⟩) ?_ ?_
                          rotate_left
                          · intro w'
                            go_simp
                            with_reducible rfl
                          rotate_left
                          · simp only [Act.put, List.setIfInBounds_toArray, List.set_cons_zero, List.set_cons_succ, i64_w, i32_w]
                            rfl
                          refine pure_ (i := 14) (N := some 48) (v := ?_) (a' := ?_) #[true, true, true, true, true, true, true, true, true, true, true, true, true, true, true, false, false, false, false, false, false, false, false, false, false, false, false, false] rfl rfl (any_of HT_.out (by kernel_rfl)) (fun _ _ _ h => h) (Or.inl ⟨by rfl, ?_⟩) ?_ ?_
                          rotate_left
                          · intro w'
                            go_simp
                            with_reducible rfl
                          rotate_left
                          · simp only [Act.put, List.setIfInBounds_toArray, List.set_cons_zero, List.set_cons_succ, i64_w, i32_w]
                            rfl
                          refine pure_ (i := 15) (N := some 49) (v := ?_) (a' := ?_) #[true, true, true, true, true, true, true, true, true, true, true, true, true, true, true, true, false, false, false, false, false, false, false, false, false, false, false, false] rfl rfl (any_of HT_.out (by kernel_rfl)) (fun _ _ _ h => h) (Or.inl ⟨by rfl, ?_⟩) ?_ ?_
                          rotate_left
                          · intro w'
                            go_simp
                            with_reducible rfl
                          rotate_left
                          · simp only [Act.put, List.setIfInBounds_toArray, List.set_cons_zero, List.set_cons_succ, i64_w, i32_w]
                            rfl
                          refine pure_ (i := 16) (N := some 50) (v := ?_) (a' := ?_) #[true, true, true, true, true, true, true, true, true, true, true, true, true, true, true, true, true, false, false, false, false, false, false, false, false, false, false, false] rfl rfl (any_of HT_.out (by kernel_rfl)) (fun _ _ _ h => h) (Or.inl ⟨by rfl, ?_⟩) ?_ ?_
                          rotate_left
                          · intro w'
                            go_simp
                            with_reducible rfl
                          rotate_left
                          · simp only [Act.put, List.setIfInBounds_toArray, List.set_cons_zero, List.set_cons_succ, i64_w, i32_w]
                            rfl
                          refine pure_ (i := 17) (N := some 51) (v := ?_) (a' := ?_) #[true, true, true, true, true, true, true, true, true, true, true, true, true, true, true, true, true, true, false, false, false, false, false, false, false, false, false, false] rfl rfl (any_of HT_.out (by kernel_rfl)) (fun _ _ _ h => h) (Or.inl ⟨by rfl, ?_⟩) ?_ ?_
                          rotate_left
                          · intro w'
                            go_simp
                            with_reducible rfl
                          rotate_left
                          · simp only [Act.put, List.setIfInBounds_toArray, List.set_cons_zero, List.set_cons_succ, i64_w, i32_w]
                            rfl
                          refine pure_ (i := 18) (N := some 52) (v := ?_) (a' := ?_) #[true, true, true, true, true, true, true, true, true, true, true, true, true, true, true, true, true, true, true, false, false, false, false, false, false, false, false, false] rfl rfl (any_of HT_.out (by kernel_rfl)) (fun _ _ _ h => h) (Or.inl ⟨by rfl, ?_⟩) ?_ ?_
                          rotate_left
                          · intro w'
                            go_simp
                            with_reducible rfl
                          rotate_left
                          · simp only [Act.put, List.setIfInBounds_toArray, List.set_cons_zero, List.set_cons_succ, i64_w, i32_w]
                            rfl
                          refine pure_ (i := 19) (N := some 53) (v := ?_) (a' := ?_) #[true, true, true, true, true, true, true, true, true, true, true, true, true, true, true, true, true, true, true, true, false, false, false, false, false, false, false, false] rfl rfl (any_of HT_.out (by kernel_rfl)) (fun _ _ _ h => h) (Or.inl ⟨by rfl, ?_⟩) ?_ ?_
                          rotate_left
                          · intro w'
                            go_simp
                            with_reducible rfl
                          rotate_left
                          · simp only [Act.put, List.setIfInBounds_toArray, List.set_cons_zero, List.set_cons_succ, i64_w, i32_w]
                            rfl
                          refine pure_ (i := 20) (N := some 54) (v := ?_) (a' := ?_) #[true, true, true, true, true, true, true, true, true, true, true, true, true, true, true, true, true, true, true, true, true, false, false, false, false, false, false, false] rfl rfl (any_of HT_.out (by kernel_rfl)) (fun _ _ _ h => h) (Or.inl ⟨by rfl, ?_⟩) ?_ ?_
                          rotate_left
                          · intro w'
                            go_simp
                            with_reducible rfl
                          rotate_left
                          · simp only [Act.put, List.setIfInBounds_toArray, List.set_cons_zero, List.set_cons_succ, i64_w, i32_w]
                            rfl
                          refine pure_ (i := 21) (N := some 55) (v := ?_) (a' := ?_) #[true, true, true, true, true, true, true, true, true, true, true, true, true, true, true, true, true, true, true, true, true, true, false, false, false, false, false, false] rfl rfl (any_of HT_.out (by kernel_rfl)) (fun _ _ _ h => h) (Or.inl ⟨by rfl, ?_⟩) ?_ ?_
                          rotate_left
                          · intro w'
                            go_simp
                            with_reducible rfl
                          rotate_left
                          · simp only [Act.put, List.setIfInBounds_toArray, List.set_cons_zero, List.set_cons_succ, i64_w, i32_w]
                            rfl
                          refine pure_ (i := 23) (N := some 57) (v := ?_) (a' := ?_) #[true, true, true, true, true, true, true, true, true, true, true, true, true, true, true, true, true, true, true, true, true, true, false, true, false, false, false, false] rfl rfl (any_of HT_.out (by kernel_rfl)) (fun _ _ _ h => h) (Or.inl ⟨by rfl, ?_⟩) ?_ ?_
                          rotate_left
                          · intro w'
                            go_simp
                            with_reducible rfl
                          rotate_left
                          · simp only [Act.put, List.setIfInBounds_toArray, List.set_cons_zero, List.set_cons_succ, i64_w, i32_w]
                            rfl
                          refine pure_ (i := 24) (N := some 58) (v := ?_) (a' := ?_) #[true, true, true, true, true, true, true, true, true, true, true, true, true, true, true, true, true, true, true, true, true, true, false, true, true, false, false, false] rfl rfl (any_of HT_.out (by kernel_rfl)) (fun _ _ _ h => h) (Or.inl ⟨by rfl, ?_⟩) ?_ ?_
                          rotate_left
                          · intro w'
                            go_simp
                            with_reducible rfl
                          rotate_left
                          · simp only [Act.put, List.setIfInBounds_toArray, List.set_cons_zero, List.set_cons_succ, i64_w, i32_w]
                            rfl
                          refine one_ (i := 22) (N := some 56) #[true, true, true, true, true, true, true, true, true, true, true, true, true, true, true, true, true, true, true, true, true, true, true, true, true, false, false, false] rfl rfl (one_of HT_.out (by kernel_rfl)) (by decide) (fun K hK => ?_)
                          refine goes_ Try.func21 (by kernel_rfl) rfl #[.slice Ao49 y190.length co49, .int .i64 200] (by rfl) rfl rfl (by (try simp only [List.map_toArray, List.map_cons, List.map_nil]); first | done | rfl | (simp only [List.length_drop, List.length_take]; rfl)) ?_
                          with_reducible refine (winch_Clear.calls k _ _ y190 200 t233 _ ?side1 ?side2 A15.out).mono ?_
                          (case side1 => repeat (first | exact (Kd.N_reads' HO192.out).2.2 | (with_reducible refine Kd.C_alloc ?_ _) | (with_reducible refine Kd.C_drewN ?_ _) | (with_reducible refine Kd.C_drew ?_)))
                          (case side2 => exact (Kd.N_reads' HO192.out).2.1)
                          rintro e w67 ⟨v234, rfl, ho0, hb⟩
                          refine ⟨_, rfl, ?_⟩
                          have n0_ := Aside0.mk (Kd.N_elder' (by (with_reducible repeat (first | apply Kd.N_alloc | apply Kd.N_drewN | apply Kd.N_drew)); exact HO192.out) (Kd.N_base ho0) hb)
                          have n1_ := Aside0.mk (Kd.R_below (by (with_reducible repeat (first | apply Kd.R_alloc | apply Kd.R_drewN | apply Kd.R_drew)); exact HO201.out) hb)
                          have n2_ := Aside0.mk (Kd.N_elder' (by (with_reducible repeat (first | apply Kd.N_alloc | apply Kd.N_drewN | apply Kd.N_drew)); exact HO204.out) (Kd.N_base ho0) hb)
                          have n3_ := Aside0.mk (Kd.R_below (by (with_reducible repeat (first | apply Kd.R_alloc | apply Kd.R_drewN | apply Kd.R_drew)); exact HO214.out) hb)
                          have n4_ := Aside0.mk (Kd.N_elder' (by (with_reducible repeat (first | apply Kd.N_alloc | apply Kd.N_drewN | apply Kd.N_drew)); exact HO217.out) (Kd.N_base ho0) hb)
                          have n5_ := Aside0.mk (Kd.R_below (by (with_reducible repeat (first | apply Kd.R_alloc | apply Kd.R_drewN | apply Kd.R_drew)); exact HO227.out) hb)
                          have n6_ := Aside0.mk (Kd.N_elder' (by (with_reducible repeat (first | apply Kd.N_alloc | apply Kd.N_drewN | apply Kd.N_drew)); exact HO230.out) (Kd.N_base ho0) hb)
                          have n7_ := Aside0.mk (Kd.N_lower (Kd.N_mono (ok' := fun k_ => some k_ ≠ (.slice Ao49 y190.length co49 : Value).ownBlock ∧ some k_ ≠ (.slice Ao50 t199.length co50 : Value).ownBlock ∧ some k_ ≠ (v203 : Value).ownBlock ∧ some k_ ≠ (.slice Ao56 t212.length co56 : Value).ownBlock ∧ some k_ ≠ (.slice Ao66 t215.length co66 : Value).ownBlock ∧ some k_ ≠ (.slice Ao62 t225.length co62 : Value).ownBlock ∧ some k_ ≠ (v229 : Value).ownBlock) ho0 (fun k_ hk_ => ⟨(Kd.fresh' (Kd.N_lt (by (with_reducible repeat (first | apply Kd.N_alloc | apply Kd.N_drewN | apply Kd.N_drew)); exact HO192.out)) k_ hk_), (Kd.fresh' (Kd.R_lt (by (with_reducible repeat (first | apply Kd.R_alloc | apply Kd.R_drewN | apply Kd.R_drew)); exact HO201.out)) k_ hk_), (Kd.fresh' (Kd.N_lt (by (with_reducible repeat (first | apply Kd.N_alloc | apply Kd.N_drewN | apply Kd.N_drew)); exact HO204.out)) k_ hk_), (Kd.fresh' (Kd.R_lt (by (with_reducible repeat (first | apply Kd.R_alloc | apply Kd.R_drewN | apply Kd.R_drew)); exact HO214.out)) k_ hk_), (Kd.fresh' (Kd.N_lt (by (with_reducible repeat (first | apply Kd.N_alloc | apply Kd.N_drewN | apply Kd.N_drew)); exact HO217.out)) k_ hk_), (Kd.fresh' (Kd.R_lt (by (with_reducible repeat (first | apply Kd.R_alloc | apply Kd.R_drewN | apply Kd.R_drew)); exact HO227.out)) k_ hk_), (Kd.fresh' (Kd.N_lt (by (with_reducible repeat (first | apply Kd.N_alloc | apply Kd.N_drewN | apply Kd.N_drew)); exact HO230.out)) k_ hk_)⟩)) (below_size (by repeat (first | (with_reducible first | exact HB.out | apply below_alloc | apply pw_below_drewN | apply below_drew1) | exact HB.out))))
                          have n8_ := Aside0.mk (below_step (by repeat (first | (with_reducible first | exact HB.out | apply below_alloc | apply pw_below_drewN | apply below_drew1) | exact HB.out)) hb)
                          clear HO192
                          clear HO201
                          clear HO204
                          clear HO214
                          clear HO217
                          clear HO227
                          clear HO230
                          clear HB
                          have HO192 := n0_
                          have HO201 := n1_
                          have HO204 := n2_
                          have HO214 := n3_
                          have HO217 := n4_
                          have HO227 := n5_
                          have HO230 := n6_
                          have HO235 := n7_
                          have HB := n8_
                          clear n0_ n1_ n2_ n3_ n4_ n5_ n6_ n7_ n8_
                          (try clear hb)
                          (try clear hb2)
                          (try clear hk)
                          (try clear hi)
                          (try clear ho0)
                          have q68 : (1 : Int) ≤ ((y190.length : Int) : Int) := of_decide_eq_true (by first | (with_reducible assumption) | assumption)
                          obtain ⟨i068, hi068, _, hsz68, _⟩ := info_parts info29
                          have hroom68 : y190.length ≤ co49 := (Kd.N_reads' HO192.out).2.1
                          have hC68 : Kd.F k29 _ _ Ao49 y190.length y190 := (Kd.V_at (base := w.heap.size) (Kd.N_V HO192.out)).2.2
                          have hcut68 := cut_from (P := Try.prog) 22 29 .i64 Try.underlying22 hi068 4 hsz68 Ao49 y190.length co49 1 (by omega) q68
                          have hr68 := Kd.F_cut (m := (1 : Int).toNat) (c := co49) hC68 (by omega) hroom68
                          obtain ⟨A68, hA68⟩ : ∃ A1, A1 = (if co49 = (1 : Int).toNat then Ao49 else (Ao49 : Option Addr).map (·.add ((1 : Int).toNat * 4))) := ⟨_, rfl⟩
                          obtain ⟨c68, hc68⟩ : ∃ c1, c1 = co49 - (1 : Int).toNat := ⟨_, rfl⟩
                          have hy68 : y236.length = y190.length - (1 : Int).toNat := (by rw [Ny236.out, List.length_drop] <;> omega)
                          rw [show (y190).drop (1 : Int).toNat = y236 from Ny236.out.symm] at hr68
                          replace hr68 : Kd.F k29 _ _ A68 y236.length y236 := (by rw [hA68]; exact hr68)
                          rw [← hy68, ← hA68, ← hc68] at hcut68
                          have HO240 := Aside0.mk (show Kd.V k29 29 _ w.heap.size _ (.slice A68 y236.length c68) y236 from Kd.V_mk (by rw [hy68, hc68]; exact Nat.sub_le_sub_right hroom68 _) hr68)
                          have HC240 := Aside0.mk (show y236.length ≤ c68 from by rw [hy68, hc68]; exact Nat.sub_le_sub_right hroom68 _)
                          have KC68 := Aside0.mk hc68
                          clear hr68 hC68 hroom68 hi068 hsz68 hc68
                          have KY68 := Aside0.mk hy68
                          have KA68 := Aside0.mk hA68
                          clear hy68 hA68
                          replace q68 := eq_true q68
                          obtain ⟨Ao69, co69, eo69⟩ := Kd.N_slice HO235.out
                          (first | subst eo69 | (injection eo69 with f1_ f2_ f3_; have f4_ := f1_.symm; have f5_ := f3_.symm; clear f1_ f2_ f3_; subst f4_; subst f5_))
                          refine hK.out _ _ trivial (fun hHeld => ?_)
                          clear hK K
                          refine norm_ (a' := ?_) ?_ ?_
                          rotate_left
                          · show Act.put _ (some 56) _ = _
                            simp only [Act.put, List.setIfInBounds_toArray, List.set_cons_zero, List.set_cons_succ, i64_w, i32_w]
                            rfl
                          refine one_ (i := 25) (N := some 59) #[true, true, true, true, true, true, true, true, true, true, true, true, true, true, true, true, true, true, true, true, true, true, true, true, true, true, false, false] rfl rfl (one_of HT_.out (by kernel_rfl)) (by decide) (fun K hK => ?_)
                          refine goes_ Try.func17 (by kernel_rfl) rfl #[.slice Ao69 t233.length co69, .slice A68 y236.length c68] (by rfl) rfl rfl (by (try simp only [List.map_toArray, List.map_cons, List.map_nil]); first | done | rfl | (rw [KA68.out, KC68.out, KY68.out]; rfl) | (simp only [KA68.out, KC68.out, KY68.out]; rfl) | (simp only [List.length_drop, List.length_take]; rfl)) ?_
                          with_reducible refine (skiarearef46_Same.calls k _ _ t233 _ _ y236 true _ ?side1 ?side2 ?side3 ?side4 A17.out).mono ?_
                          (case side1 => repeat (first | exact (Kd.N_reads' HO235.out).2.2 | (with_reducible refine Kd.C_alloc ?_ _) | (with_reducible refine Kd.C_drewN ?_ _) | (with_reducible refine Kd.C_drew ?_)))
                          (case side2 => exact (Kd.N_reads' HO235.out).2.1)
                          (case side3 => repeat (first | exact (Kd.V_reads' HO240.out).2.2 | (with_reducible refine Kd.C_alloc ?_ _) | (with_reducible refine Kd.C_drewN ?_ _) | (with_reducible refine Kd.C_drew ?_)))
                          (case side4 => exact (Kd.V_reads' HO240.out).2.1)
                          rintro e w70 ⟨rfl, hb⟩
                          refine ⟨_, rfl, ?_⟩
                          have n0_ := Aside0.mk (Kd.N_below (by (with_reducible repeat (first | apply Kd.N_alloc | apply Kd.N_drewN | apply Kd.N_drew)); exact HO192.out) hb)
                          have n1_ := Aside0.mk (Kd.R_below (by (with_reducible repeat (first | apply Kd.R_alloc | apply Kd.R_drewN | apply Kd.R_drew)); exact HO201.out) hb)
                          have n2_ := Aside0.mk (Kd.N_below (by (with_reducible repeat (first | apply Kd.N_alloc | apply Kd.N_drewN | apply Kd.N_drew)); exact HO204.out) hb)
                          have n3_ := Aside0.mk (Kd.R_below (by (with_reducible repeat (first | apply Kd.R_alloc | apply Kd.R_drewN | apply Kd.R_drew)); exact HO214.out) hb)
                          have n4_ := Aside0.mk (Kd.N_below (by (with_reducible repeat (first | apply Kd.N_alloc | apply Kd.N_drewN | apply Kd.N_drew)); exact HO217.out) hb)
                          have n5_ := Aside0.mk (Kd.R_below (by (with_reducible repeat (first | apply Kd.R_alloc | apply Kd.R_drewN | apply Kd.R_drew)); exact HO227.out) hb)
                          have n6_ := Aside0.mk (Kd.N_below (by (with_reducible repeat (first | apply Kd.N_alloc | apply Kd.N_drewN | apply Kd.N_drew)); exact HO230.out) hb)
                          have n7_ := Aside0.mk (Kd.N_below (by (with_reducible repeat (first | apply Kd.N_alloc | apply Kd.N_drewN | apply Kd.N_drew)); exact HO235.out) hb)
                          have n8_ := Aside0.mk (Kd.V_below (by (with_reducible repeat (first | apply Kd.V_alloc | apply Kd.V_drewN | apply Kd.V_drew)); exact HO240.out) hb)
                          have n9_ := Aside0.mk (below_step (by repeat (first | (with_reducible first | exact HB.out | apply below_alloc | apply pw_below_drewN | apply below_drew1) | exact HB.out)) hb)
                          clear HO192
                          clear HO201
                          clear HO204
                          clear HO214
                          clear HO217
                          clear HO227
                          clear HO230
                          clear HO235
                          clear HO240
                          clear HB
                          have HO192 := n0_
                          have HO201 := n1_
                          have HO204 := n2_
                          have HO214 := n3_
                          have HO217 := n4_
                          have HO227 := n5_
                          have HO230 := n6_
                          have HO235 := n7_
                          have HO240 := n8_
                          have HB := n9_
                          clear n0_ n1_ n2_ n3_ n4_ n5_ n6_ n7_ n8_ n9_
                          (try clear hb)
                          (try clear hb2)
                          (try clear hk)
                          (try clear hi)
                          refine hK.out _ _ trivial (fun hHeld => ?_)
                          clear hK K
                          refine norm_ (a' := ?_) ?_ ?_
                          rotate_left
                          · show Act.put _ (some 59) _ = _
                            simp only [Act.put, List.setIfInBounds_toArray, List.set_cons_zero, List.set_cons_succ, i64_w, i32_w]
                            rfl
                          refine pure_ (i := 26) (N := some 60) (v := ?_) (a' := ?_) #[true, true, true, true, true, true, true, true, true, true, true, true, true, true, true, true, true, true, true, true, true, true, true, true, true, true, true, false] rfl rfl (any_of HT_.out (by kernel_rfl)) (fun _ _ _ h => h) (Or.inl ⟨by rfl, ?_⟩) ?_ ?_
                          rotate_left
                          · intro w'
                            go_simp
                            with_reducible rfl
                          rotate_left
                          · simp only [Act.put, List.setIfInBounds_toArray, List.set_cons_zero, List.set_cons_succ, i64_w, i32_w]
                            rfl
                          refine pure_ (i := 27) (N := some 61) (v := ?_) (a' := ?_) #[true, true, true, true, true, true, true, true, true, true, true, true, true, true, true, true, true, true, true, true, true, true, true, true, true, true, true, true] rfl rfl (any_of HT_.out (by kernel_rfl)) (fun _ _ _ h => h) (Or.inl ⟨by rfl, ?_⟩) ?_ ?_
                          rotate_left
                          · intro w'
                            go_simp
                            with_reducible rfl
                          rotate_left
                          · simp only [Act.put, List.setIfInBounds_toArray, List.set_cons_zero, List.set_cons_succ, i64_w, i32_w]
                            rfl
                          refine done_ (done_of HT_.out (by kernel_rfl)) ?_
                          (try simp only [show (if co49 = 1 then Ao49 else Option.map (fun x => (⟨x.block, x.off + 4, none⟩ : Addr)) Ao49) = A68 from by rw [KA68.out]; rfl])
                          try go_wp2_with (first | ((with_reducible refine gate_callee (f := 19) rfl ?_); refine goesL_ (some 63) rfl rfl Try.func19 (by kernel_rfl) rfl #[.slice Ao49 y190.length co49, .int .i64 100] rfl (by (try simp only [List.map_toArray, List.map_cons, List.map_nil]); first | done | rfl | (simp only [List.length_drop, List.length_take]; rfl)) ?_; (with_reducible refine (winch_Swept.calls _ _ y190 100 t242 _ ?side1 ?side2 A19.out).mono ?_); (case side1 => repeat (first | exact (Kd.N_reads' HO192.out).2.2 | (with_reducible refine Kd.C_alloc ?_ _) | (with_reducible refine Kd.C_drewN ?_ _) | (with_reducible refine Kd.C_drew ?_))); (case side2 => exact (Kd.N_reads' HO192.out).2.1); rintro e w71 ⟨v243, rfl, ho0, hb⟩; refine ⟨_, rfl, ?_⟩; have n0_ := Aside0.mk (Kd.N_elder' (by (with_reducible repeat (first | apply Kd.N_alloc | apply Kd.N_drewN | apply Kd.N_drew)); exact HO192.out) (Kd.R_base ho0) hb); have n1_ := Aside0.mk (Kd.R_elder' (by (with_reducible repeat (first | apply Kd.R_alloc | apply Kd.R_drewN | apply Kd.R_drew)); exact HO201.out) (Kd.R_base ho0) hb); have n2_ := Aside0.mk (Kd.N_elder' (by (with_reducible repeat (first | apply Kd.N_alloc | apply Kd.N_drewN | apply Kd.N_drew)); exact HO204.out) (Kd.R_base ho0) hb); have n3_ := Aside0.mk (Kd.R_elder' (by (with_reducible repeat (first | apply Kd.R_alloc | apply Kd.R_drewN | apply Kd.R_drew)); exact HO214.out) (Kd.R_base ho0) hb); have n4_ := Aside0.mk (Kd.N_elder' (by (with_reducible repeat (first | apply Kd.N_alloc | apply Kd.N_drewN | apply Kd.N_drew)); exact HO217.out) (Kd.R_base ho0) hb); have n5_ := Aside0.mk (Kd.R_elder' (by (with_reducible repeat (first | apply Kd.R_alloc | apply Kd.R_drewN | apply Kd.R_drew)); exact HO227.out) (Kd.R_base ho0) hb); have n6_ := Aside0.mk (Kd.N_elder' (by (with_reducible repeat (first | apply Kd.N_alloc | apply Kd.N_drewN | apply Kd.N_drew)); exact HO230.out) (Kd.R_base ho0) hb); have n7_ := Aside0.mk (Kd.N_elder' (by (with_reducible repeat (first | apply Kd.N_alloc | apply Kd.N_drewN | apply Kd.N_drew)); exact HO235.out) (Kd.R_base ho0) hb); have n8_ := Aside0.mk (Kd.V_elder' (by (with_reducible repeat (first | apply Kd.V_alloc | apply Kd.V_drewN | apply Kd.V_drew)); exact HO240.out) (Kd.R_base ho0) hb); have n9_ := Aside0.mk (Kd.R_lower (Kd.R_new' (Kd.R_new' (Kd.R_new' ho0 (Kd.R_lt (by (with_reducible repeat (first | apply Kd.R_alloc | apply Kd.R_drewN | apply Kd.R_drew)); exact HO201.out))) (Kd.R_lt (by (with_reducible repeat (first | apply Kd.R_alloc | apply Kd.R_drewN | apply Kd.R_drew)); exact HO214.out))) (Kd.R_lt (by (with_reducible repeat (first | apply Kd.R_alloc | apply Kd.R_drewN | apply Kd.R_drew)); exact HO227.out))) (below_size (by repeat (first | (with_reducible first | exact HB.out | apply below_alloc | apply pw_below_drewN | apply below_drew1) | exact HB.out)))); have n10_ := Aside0.mk (below_step (by repeat (first | (with_reducible first | exact HB.out | apply below_alloc | apply pw_below_drewN | apply below_drew1) | exact HB.out)) hb); clear HO192; clear HO201; clear HO204; clear HO214; clear HO217; clear HO227; clear HO230; clear HO235; clear HO240; clear HB; have HO192 := n0_; have HO201 := n1_; have HO204 := n2_; have HO214 := n3_; have HO217 := n4_; have HO227 := n5_; have HO230 := n6_; have HO235 := n7_; have HO240 := n8_; have HO244 := n9_; have HB := n10_; clear n0_ n1_ n2_ n3_ n4_ n5_ n6_ n7_ n8_ n9_ n10_; (try clear hb); (try clear hb2); (try clear hk); (try clear hi); (try clear ho0)) | ((with_reducible refine gate_dst (N := 64) rfl ?_); (try (refine gate_guard (by rfl) ?_; dsimp only)); refine Kd.R_lit (Kd.int .i64) _ 3 ?hg (N := 64) ?hd (xs := ([5, 9] : List Int)) (inner := [.int .i64 5, .int .i64 9]) (ok := fun _ => True) (okp := fun _ => True) ?hr ?hp (fun _ hk => hk) trivial (Below.refl _ _) (Nat.le_refl _) (by simp) ?_; (case hd => rfl); (case hg => rfl); (case hr => first | (go_simp; done) | (go_simp; rfl)); (case hp => exact (Reps.one (show Kd.M (Kd.int .i64) _ _ _ 5 [.int .i64 5] from rfl) (Reps.one (show Kd.M (Kd.int .i64) _ _ _ 9 [.int .i64 9] from rfl) (Reps.none _ _)))); intro v246 w72 ho73 hb hg_ hnew_; clear hg_ hnew_; (first | rw [← Ny245.out] at ho73 | (simp only [Int.reduceToNat] at ho73; rw [← Ny245.out] at ho73)); have n0_ := Aside0.mk (Kd.N_elder' (by (with_reducible repeat (first | apply Kd.N_alloc | apply Kd.N_drewN | apply Kd.N_drew)); exact HO192.out) (Kd.R_base ho73) hb); have n1_ := Aside0.mk (Kd.R_elder' (by (with_reducible repeat (first | apply Kd.R_alloc | apply Kd.R_drewN | apply Kd.R_drew)); exact HO201.out) (Kd.R_base ho73) hb); have n2_ := Aside0.mk (Kd.N_elder' (by (with_reducible repeat (first | apply Kd.N_alloc | apply Kd.N_drewN | apply Kd.N_drew)); exact HO204.out) (Kd.R_base ho73) hb); have n3_ := Aside0.mk (Kd.R_elder' (by (with_reducible repeat (first | apply Kd.R_alloc | apply Kd.R_drewN | apply Kd.R_drew)); exact HO214.out) (Kd.R_base ho73) hb); have n4_ := Aside0.mk (Kd.N_elder' (by (with_reducible repeat (first | apply Kd.N_alloc | apply Kd.N_drewN | apply Kd.N_drew)); exact HO217.out) (Kd.R_base ho73) hb); have n5_ := Aside0.mk (Kd.R_elder' (by (with_reducible repeat (first | apply Kd.R_alloc | apply Kd.R_drewN | apply Kd.R_drew)); exact HO227.out) (Kd.R_base ho73) hb); have n6_ := Aside0.mk (Kd.N_elder' (by (with_reducible repeat (first | apply Kd.N_alloc | apply Kd.N_drewN | apply Kd.N_drew)); exact HO230.out) (Kd.R_base ho73) hb); have n7_ := Aside0.mk (Kd.N_elder' (by (with_reducible repeat (first | apply Kd.N_alloc | apply Kd.N_drewN | apply Kd.N_drew)); exact HO235.out) (Kd.R_base ho73) hb); have n8_ := Aside0.mk (Kd.V_elder' (by (with_reducible repeat (first | apply Kd.V_alloc | apply Kd.V_drewN | apply Kd.V_drew)); exact HO240.out) (Kd.R_base ho73) hb); have n9_ := Aside0.mk (Kd.R_elder' (by (with_reducible repeat (first | apply Kd.R_alloc | apply Kd.R_drewN | apply Kd.R_drew)); exact HO244.out) (Kd.R_base ho73) hb); have n10_ := Aside0.mk (Kd.R_lower (Kd.R_new' (Kd.R_new' (Kd.R_new' (Kd.R_new' ho73 (Kd.R_lt (by (with_reducible repeat (first | apply Kd.R_alloc | apply Kd.R_drewN | apply Kd.R_drew)); exact HO201.out))) (Kd.R_lt (by (with_reducible repeat (first | apply Kd.R_alloc | apply Kd.R_drewN | apply Kd.R_drew)); exact HO214.out))) (Kd.R_lt (by (with_reducible repeat (first | apply Kd.R_alloc | apply Kd.R_drewN | apply Kd.R_drew)); exact HO227.out))) (Kd.R_lt (by (with_reducible repeat (first | apply Kd.R_alloc | apply Kd.R_drewN | apply Kd.R_drew)); exact HO244.out))) (below_size (by repeat (first | (with_reducible first | exact HB.out | apply below_alloc | apply pw_below_drewN | apply below_drew1) | exact HB.out)))); have n11_ := Aside0.mk (below_step (by repeat (first | (with_reducible first | exact HB.out | apply below_alloc | apply pw_below_drewN | apply below_drew1) | exact HB.out)) hb); clear HO192; clear HO201; clear HO204; clear HO214; clear HO217; clear HO227; clear HO230; clear HO235; clear HO240; clear HO244; clear HB; have HO192 := n0_; have HO201 := n1_; have HO204 := n2_; have HO214 := n3_; have HO217 := n4_; have HO227 := n5_; have HO230 := n6_; have HO235 := n7_; have HO240 := n8_; have HO244 := n9_; have HO247 := n10_; have HB := n11_; clear n0_ n1_ n2_ n3_ n4_ n5_ n6_ n7_ n8_ n9_ n10_ n11_; clear hb ho73; obtain ⟨Ao74, co74, eo74⟩ := Kd.R_slice HO244.out; subst eo74; obtain ⟨Ao75, co75, eo75⟩ := Kd.R_slice HO247.out; subst eo75) | ((with_reducible refine gate_callee (f := 18) rfl ?_); refine goesL_ (some 65) rfl rfl Try.func18 (by kernel_rfl) rfl #[.slice Ao74 t242.length co74, .slice Ao75 y245.length co75] rfl (by (try simp only [List.map_toArray, List.map_cons, List.map_nil]); first | done | rfl | (simp only [List.length_drop, List.length_take]; rfl)) ?_; (with_reducible refine (skiarearef46_SameInts.calls k _ _ t242 _ _ y245 true _ ?side1 ?side2 ?side3 ?side4 A20.out).mono ?_); (case side1 => repeat (first | exact (Kd.R_reads' HO244.out).2.2 | (with_reducible refine Kd.C_alloc ?_ _) | (with_reducible refine Kd.C_drewN ?_ _) | (with_reducible refine Kd.C_drew ?_))); (case side2 => exact (Kd.R_reads' HO244.out).2.1); (case side3 => repeat (first | exact (Kd.R_reads' HO247.out).2.2 | (with_reducible refine Kd.C_alloc ?_ _) | (with_reducible refine Kd.C_drewN ?_ _) | (with_reducible refine Kd.C_drew ?_))); (case side4 => exact (Kd.R_reads' HO247.out).2.1); rintro e w' ⟨rfl, ⟨nd, rfl⟩⟩; refine ⟨_, rfl, ?_⟩) | (go_at_call 19; (with_reducible refine (winch_Swept.calls _ _ y190 150 t249 _ ?side1 ?side2 A22.out).mono ?_); (case side1 => repeat (first | exact (Kd.N_reads' HO192.out).2.2 | (with_reducible refine Kd.C_alloc ?_ _) | (with_reducible refine Kd.C_drewN ?_ _) | (with_reducible refine Kd.C_drew ?_))); (case side2 => exact (Kd.N_reads' HO192.out).2.1); rintro e w76 ⟨v250, rfl, ho0, hb⟩; have n0_ := Aside0.mk (Kd.N_elder' (by (with_reducible repeat (first | apply Kd.N_alloc | apply Kd.N_drewN | apply Kd.N_drew)); exact HO192.out) (Kd.R_base ho0) hb); have n1_ := Aside0.mk (Kd.R_elder' (by (with_reducible repeat (first | apply Kd.R_alloc | apply Kd.R_drewN | apply Kd.R_drew)); exact HO201.out) (Kd.R_base ho0) hb); have n2_ := Aside0.mk (Kd.N_elder' (by (with_reducible repeat (first | apply Kd.N_alloc | apply Kd.N_drewN | apply Kd.N_drew)); exact HO204.out) (Kd.R_base ho0) hb); have n3_ := Aside0.mk (Kd.R_elder' (by (with_reducible repeat (first | apply Kd.R_alloc | apply Kd.R_drewN | apply Kd.R_drew)); exact HO214.out) (Kd.R_base ho0) hb); have n4_ := Aside0.mk (Kd.N_elder' (by (with_reducible repeat (first | apply Kd.N_alloc | apply Kd.N_drewN | apply Kd.N_drew)); exact HO217.out) (Kd.R_base ho0) hb); have n5_ := Aside0.mk (Kd.R_elder' (by (with_reducible repeat (first | apply Kd.R_alloc | apply Kd.R_drewN | apply Kd.R_drew)); exact HO227.out) (Kd.R_base ho0) hb); have n6_ := Aside0.mk (Kd.N_elder' (by (with_reducible repeat (first | apply Kd.N_alloc | apply Kd.N_drewN | apply Kd.N_drew)); exact HO230.out) (Kd.R_base ho0) hb); have n7_ := Aside0.mk (Kd.N_elder' (by (with_reducible repeat (first | apply Kd.N_alloc | apply Kd.N_drewN | apply Kd.N_drew)); exact HO235.out) (Kd.R_base ho0) hb); have n8_ := Aside0.mk (Kd.V_elder' (by (with_reducible repeat (first | apply Kd.V_alloc | apply Kd.V_drewN | apply Kd.V_drew)); exact HO240.out) (Kd.R_base ho0) hb); have n9_ := Aside0.mk (Kd.R_elder' (by (with_reducible repeat (first | apply Kd.R_alloc | apply Kd.R_drewN | apply Kd.R_drew)); exact HO244.out) (Kd.R_base ho0) hb); have n10_ := Aside0.mk (Kd.R_elder' (by (with_reducible repeat (first | apply Kd.R_alloc | apply Kd.R_drewN | apply Kd.R_drew)); exact HO247.out) (Kd.R_base ho0) hb); have n11_ := Aside0.mk (Kd.R_lower (Kd.R_new' (Kd.R_new' (Kd.R_new' (Kd.R_new' (Kd.R_new' ho0 (Kd.R_lt (by (with_reducible repeat (first | apply Kd.R_alloc | apply Kd.R_drewN | apply Kd.R_drew)); exact HO201.out))) (Kd.R_lt (by (with_reducible repeat (first | apply Kd.R_alloc | apply Kd.R_drewN | apply Kd.R_drew)); exact HO214.out))) (Kd.R_lt (by (with_reducible repeat (first | apply Kd.R_alloc | apply Kd.R_drewN | apply Kd.R_drew)); exact HO227.out))) (Kd.R_lt (by (with_reducible repeat (first | apply Kd.R_alloc | apply Kd.R_drewN | apply Kd.R_drew)); exact HO244.out))) (Kd.R_lt (by (with_reducible repeat (first | apply Kd.R_alloc | apply Kd.R_drewN | apply Kd.R_drew)); exact HO247.out))) (below_size (by repeat (first | (with_reducible first | exact HB.out | apply below_alloc | apply pw_below_drewN | apply below_drew1) | exact HB.out)))); have n12_ := Aside0.mk (below_step (by repeat (first | (with_reducible first | exact HB.out | apply below_alloc | apply pw_below_drewN | apply below_drew1) | exact HB.out)) hb); clear HO192; clear HO201; clear HO204; clear HO214; clear HO217; clear HO227; clear HO230; clear HO235; clear HO240; clear HO244; clear HO247; clear HB; have HO192 := n0_; have HO201 := n1_; have HO204 := n2_; have HO214 := n3_; have HO217 := n4_; have HO227 := n5_; have HO230 := n6_; have HO235 := n7_; have HO240 := n8_; have HO244 := n9_; have HO247 := n10_; have HO251 := n11_; have HB := n12_; clear n0_ n1_ n2_ n3_ n4_ n5_ n6_ n7_ n8_ n9_ n10_ n11_ n12_; (try clear hb); (try clear hb2); (try clear hk); (try clear hi); (try clear ho0)) | ((with_reducible refine gate_dst (N := 70) rfl ?_); (try (refine gate_guard (by rfl) ?_; dsimp only)); refine Kd.R_lit (Kd.int .i64) _ 3 ?hg (N := 70) ?hd (xs := ([5, 7, 9] : List Int)) (inner := [.int .i64 5, .int .i64 7, .int .i64 9]) (ok := fun _ => True) (okp := fun _ => True) ?hr ?hp (fun _ hk => hk) trivial (Below.refl _ _) (Nat.le_refl _) (by simp) ?_; (case hd => rfl); (case hg => rfl); (case hr => first | (go_simp; done) | (go_simp; rfl)); (case hp => exact (Reps.one (show Kd.M (Kd.int .i64) _ _ _ 5 [.int .i64 5] from rfl) (Reps.one (show Kd.M (Kd.int .i64) _ _ _ 7 [.int .i64 7] from rfl) (Reps.one (show Kd.M (Kd.int .i64) _ _ _ 9 [.int .i64 9] from rfl) (Reps.none _ _))))); intro v253 w77 ho78 hb hg_ hnew_; clear hg_ hnew_; (first | rw [← Ny252.out] at ho78 | (simp only [Int.reduceToNat] at ho78; rw [← Ny252.out] at ho78)); have n0_ := Aside0.mk (Kd.N_elder' (by (with_reducible repeat (first | apply Kd.N_alloc | apply Kd.N_drewN | apply Kd.N_drew)); exact HO192.out) (Kd.R_base ho78) hb); have n1_ := Aside0.mk (Kd.R_elder' (by (with_reducible repeat (first | apply Kd.R_alloc | apply Kd.R_drewN | apply Kd.R_drew)); exact HO201.out) (Kd.R_base ho78) hb); have n2_ := Aside0.mk (Kd.N_elder' (by (with_reducible repeat (first | apply Kd.N_alloc | apply Kd.N_drewN | apply Kd.N_drew)); exact HO204.out) (Kd.R_base ho78) hb); have n3_ := Aside0.mk (Kd.R_elder' (by (with_reducible repeat (first | apply Kd.R_alloc | apply Kd.R_drewN | apply Kd.R_drew)); exact HO214.out) (Kd.R_base ho78) hb); have n4_ := Aside0.mk (Kd.N_elder' (by (with_reducible repeat (first | apply Kd.N_alloc | apply Kd.N_drewN | apply Kd.N_drew)); exact HO217.out) (Kd.R_base ho78) hb); have n5_ := Aside0.mk (Kd.R_elder' (by (with_reducible repeat (first | apply Kd.R_alloc | apply Kd.R_drewN | apply Kd.R_drew)); exact HO227.out) (Kd.R_base ho78) hb); have n6_ := Aside0.mk (Kd.N_elder' (by (with_reducible repeat (first | apply Kd.N_alloc | apply Kd.N_drewN | apply Kd.N_drew)); exact HO230.out) (Kd.R_base ho78) hb); have n7_ := Aside0.mk (Kd.N_elder' (by (with_reducible repeat (first | apply Kd.N_alloc | apply Kd.N_drewN | apply Kd.N_drew)); exact HO235.out) (Kd.R_base ho78) hb); have n8_ := Aside0.mk (Kd.V_elder' (by (with_reducible repeat (first | apply Kd.V_alloc | apply Kd.V_drewN | apply Kd.V_drew)); exact HO240.out) (Kd.R_base ho78) hb); have n9_ := Aside0.mk (Kd.R_elder' (by (with_reducible repeat (first | apply Kd.R_alloc | apply Kd.R_drewN | apply Kd.R_drew)); exact HO244.out) (Kd.R_base ho78) hb); have n10_ := Aside0.mk (Kd.R_elder' (by (with_reducible repeat (first | apply Kd.R_alloc | apply Kd.R_drewN | apply Kd.R_drew)); exact HO247.out) (Kd.R_base ho78) hb); have n11_ := Aside0.mk (Kd.R_elder' (by (with_reducible repeat (first | apply Kd.R_alloc | apply Kd.R_drewN | apply Kd.R_drew)); exact HO251.out) (Kd.R_base ho78) hb); have n12_ := Aside0.mk (Kd.R_lower (Kd.R_new' (Kd.R_new' (Kd.R_new' (Kd.R_new' (Kd.R_new' (Kd.R_new' ho78 (Kd.R_lt (by (with_reducible repeat (first | apply Kd.R_alloc | apply Kd.R_drewN | apply Kd.R_drew)); exact HO201.out))) (Kd.R_lt (by (with_reducible repeat (first | apply Kd.R_alloc | apply Kd.R_drewN | apply Kd.R_drew)); exact HO214.out))) (Kd.R_lt (by (with_reducible repeat (first | apply Kd.R_alloc | apply Kd.R_drewN | apply Kd.R_drew)); exact HO227.out))) (Kd.R_lt (by (with_reducible repeat (first | apply Kd.R_alloc | apply Kd.R_drewN | apply Kd.R_drew)); exact HO244.out))) (Kd.R_lt (by (with_reducible repeat (first | apply Kd.R_alloc | apply Kd.R_drewN | apply Kd.R_drew)); exact HO247.out))) (Kd.R_lt (by (with_reducible repeat (first | apply Kd.R_alloc | apply Kd.R_drewN | apply Kd.R_drew)); exact HO251.out))) (below_size (by repeat (first | (with_reducible first | exact HB.out | apply below_alloc | apply pw_below_drewN | apply below_drew1) | exact HB.out)))); have n13_ := Aside0.mk (below_step (by repeat (first | (with_reducible first | exact HB.out | apply below_alloc | apply pw_below_drewN | apply below_drew1) | exact HB.out)) hb); clear HO192; clear HO201; clear HO204; clear HO214; clear HO217; clear HO227; clear HO230; clear HO235; clear HO240; clear HO244; clear HO247; clear HO251; clear HB; have HO192 := n0_; have HO201 := n1_; have HO204 := n2_; have HO214 := n3_; have HO217 := n4_; have HO227 := n5_; have HO230 := n6_; have HO235 := n7_; have HO240 := n8_; have HO244 := n9_; have HO247 := n10_; have HO251 := n11_; have HO254 := n12_; have HB := n13_; clear n0_ n1_ n2_ n3_ n4_ n5_ n6_ n7_ n8_ n9_ n10_ n11_ n12_ n13_; clear hb ho78; obtain ⟨Ao79, co79, eo79⟩ := Kd.R_slice HO251.out; subst eo79; obtain ⟨Ao80, co80, eo80⟩ := Kd.R_slice HO254.out; subst eo80) | (go_at_call 18; (with_reducible refine (skiarearef46_SameInts.calls k _ _ t249 _ _ y252 true _ ?side1 ?side2 ?side3 ?side4 A23.out).mono ?_); (case side1 => repeat (first | exact (Kd.R_reads' HO251.out).2.2 | (with_reducible refine Kd.C_alloc ?_ _) | (with_reducible refine Kd.C_drewN ?_ _) | (with_reducible refine Kd.C_drew ?_))); (case side2 => exact (Kd.R_reads' HO251.out).2.1); (case side3 => repeat (first | exact (Kd.R_reads' HO254.out).2.2 | (with_reducible refine Kd.C_alloc ?_ _) | (with_reducible refine Kd.C_drewN ?_ _) | (with_reducible refine Kd.C_drew ?_))); (case side4 => exact (Kd.R_reads' HO254.out).2.1); rintro e w' ⟨rfl, ⟨nd, rfl⟩⟩) | (go_at_call 19; (with_reducible refine (winch_Swept.calls _ _ y190 200 t256 _ ?side1 ?side2 A25.out).mono ?_); (case side1 => repeat (first | exact (Kd.N_reads' HO192.out).2.2 | (with_reducible refine Kd.C_alloc ?_ _) | (with_reducible refine Kd.C_drewN ?_ _) | (with_reducible refine Kd.C_drew ?_))); (case side2 => exact (Kd.N_reads' HO192.out).2.1); rintro e w81 ⟨v257, rfl, ho0, hb⟩; have n0_ := Aside0.mk (Kd.N_elder' (by (with_reducible repeat (first | apply Kd.N_alloc | apply Kd.N_drewN | apply Kd.N_drew)); exact HO192.out) (Kd.R_base ho0) hb); have n1_ := Aside0.mk (Kd.R_elder' (by (with_reducible repeat (first | apply Kd.R_alloc | apply Kd.R_drewN | apply Kd.R_drew)); exact HO201.out) (Kd.R_base ho0) hb); have n2_ := Aside0.mk (Kd.N_elder' (by (with_reducible repeat (first | apply Kd.N_alloc | apply Kd.N_drewN | apply Kd.N_drew)); exact HO204.out) (Kd.R_base ho0) hb); have n3_ := Aside0.mk (Kd.R_elder' (by (with_reducible repeat (first | apply Kd.R_alloc | apply Kd.R_drewN | apply Kd.R_drew)); exact HO214.out) (Kd.R_base ho0) hb); have n4_ := Aside0.mk (Kd.N_elder' (by (with_reducible repeat (first | apply Kd.N_alloc | apply Kd.N_drewN | apply Kd.N_drew)); exact HO217.out) (Kd.R_base ho0) hb); have n5_ := Aside0.mk (Kd.R_elder' (by (with_reducible repeat (first | apply Kd.R_alloc | apply Kd.R_drewN | apply Kd.R_drew)); exact HO227.out) (Kd.R_base ho0) hb); have n6_ := Aside0.mk (Kd.N_elder' (by (with_reducible repeat (first | apply Kd.N_alloc | apply Kd.N_drewN | apply Kd.N_drew)); exact HO230.out) (Kd.R_base ho0) hb); have n7_ := Aside0.mk (Kd.N_elder' (by (with_reducible repeat (first | apply Kd.N_alloc | apply Kd.N_drewN | apply Kd.N_drew)); exact HO235.out) (Kd.R_base ho0) hb); have n8_ := Aside0.mk (Kd.V_elder' (by (with_reducible repeat (first | apply Kd.V_alloc | apply Kd.V_drewN | apply Kd.V_drew)); exact HO240.out) (Kd.R_base ho0) hb); have n9_ := Aside0.mk (Kd.R_elder' (by (with_reducible repeat (first | apply Kd.R_alloc | apply Kd.R_drewN | apply Kd.R_drew)); exact HO244.out) (Kd.R_base ho0) hb); have n10_ := Aside0.mk (Kd.R_elder' (by (with_reducible repeat (first | apply Kd.R_alloc | apply Kd.R_drewN | apply Kd.R_drew)); exact HO247.out) (Kd.R_base ho0) hb); have n11_ := Aside0.mk (Kd.R_elder' (by (with_reducible repeat (first | apply Kd.R_alloc | apply Kd.R_drewN | apply Kd.R_drew)); exact HO251.out) (Kd.R_base ho0) hb); have n12_ := Aside0.mk (Kd.R_elder' (by (with_reducible repeat (first | apply Kd.R_alloc | apply Kd.R_drewN | apply Kd.R_drew)); exact HO254.out) (Kd.R_base ho0) hb); have n13_ := Aside0.mk (Kd.R_lower (Kd.R_new' (Kd.R_new' (Kd.R_new' (Kd.R_new' (Kd.R_new' (Kd.R_new' (Kd.R_new' ho0 (Kd.R_lt (by (with_reducible repeat (first | apply Kd.R_alloc | apply Kd.R_drewN | apply Kd.R_drew)); exact HO201.out))) (Kd.R_lt (by (with_reducible repeat (first | apply Kd.R_alloc | apply Kd.R_drewN | apply Kd.R_drew)); exact HO214.out))) (Kd.R_lt (by (with_reducible repeat (first | apply Kd.R_alloc | apply Kd.R_drewN | apply Kd.R_drew)); exact HO227.out))) (Kd.R_lt (by (with_reducible repeat (first | apply Kd.R_alloc | apply Kd.R_drewN | apply Kd.R_drew)); exact HO244.out))) (Kd.R_lt (by (with_reducible repeat (first | apply Kd.R_alloc | apply Kd.R_drewN | apply Kd.R_drew)); exact HO247.out))) (Kd.R_lt (by (with_reducible repeat (first | apply Kd.R_alloc | apply Kd.R_drewN | apply Kd.R_drew)); exact HO251.out))) (Kd.R_lt (by (with_reducible repeat (first | apply Kd.R_alloc | apply Kd.R_drewN | apply Kd.R_drew)); exact HO254.out))) (below_size (by repeat (first | (with_reducible first | exact HB.out | apply below_alloc | apply pw_below_drewN | apply below_drew1) | exact HB.out)))); have n14_ := Aside0.mk (below_step (by repeat (first | (with_reducible first | exact HB.out | apply below_alloc | apply pw_below_drewN | apply below_drew1) | exact HB.out)) hb); clear HO192; clear HO201; clear HO204; clear HO214; clear HO217; clear HO227; clear HO230; clear HO235; clear HO240; clear HO244; clear HO247; clear HO251; clear HO254; clear HB; have HO192 := n0_; have HO201 := n1_; have HO204 := n2_; have HO214 := n3_; have HO217 := n4_; have HO227 := n5_; have HO230 := n6_; have HO235 := n7_; have HO240 := n8_; have HO244 := n9_; have HO247 := n10_; have HO251 := n11_; have HO254 := n12_; have HO258 := n13_; have HB := n14_; clear n0_ n1_ n2_ n3_ n4_ n5_ n6_ n7_ n8_ n9_ n10_ n11_ n12_ n13_ n14_; (try clear hb); (try clear hb2); (try clear hk); (try clear hi); (try clear ho0)) | ((with_reducible refine gate_dst (N := 77) rfl ?_); (try (refine gate_guard (by rfl) ?_; dsimp only)); refine Kd.R_lit (Kd.int .i64) _ 3 ?hg (N := 77) ?hd (xs := ([7] : List Int)) (inner := [.int .i64 7]) (ok := fun _ => True) (okp := fun _ => True) ?hr ?hp (fun _ hk => hk) trivial (Below.refl _ _) (Nat.le_refl _) (by simp) ?_; (case hd => rfl); (case hg => rfl); (case hr => first | (go_simp; done) | (go_simp; rfl)); (case hp => exact (Reps.one (show Kd.M (Kd.int .i64) _ _ _ 7 [.int .i64 7] from rfl) (Reps.none _ _))); intro v260 w82 ho83 hb hg_ hnew_; clear hg_ hnew_; (first | rw [← Ny259.out] at ho83 | (simp only [Int.reduceToNat] at ho83; rw [← Ny259.out] at ho83)); have n0_ := Aside0.mk (Kd.N_elder' (by (with_reducible repeat (first | apply Kd.N_alloc | apply Kd.N_drewN | apply Kd.N_drew)); exact HO192.out) (Kd.R_base ho83) hb); have n1_ := Aside0.mk (Kd.R_elder' (by (with_reducible repeat (first | apply Kd.R_alloc | apply Kd.R_drewN | apply Kd.R_drew)); exact HO201.out) (Kd.R_base ho83) hb); have n2_ := Aside0.mk (Kd.N_elder' (by (with_reducible repeat (first | apply Kd.N_alloc | apply Kd.N_drewN | apply Kd.N_drew)); exact HO204.out) (Kd.R_base ho83) hb); have n3_ := Aside0.mk (Kd.R_elder' (by (with_reducible repeat (first | apply Kd.R_alloc | apply Kd.R_drewN | apply Kd.R_drew)); exact HO214.out) (Kd.R_base ho83) hb); have n4_ := Aside0.mk (Kd.N_elder' (by (with_reducible repeat (first | apply Kd.N_alloc | apply Kd.N_drewN | apply Kd.N_drew)); exact HO217.out) (Kd.R_base ho83) hb); have n5_ := Aside0.mk (Kd.R_elder' (by (with_reducible repeat (first | apply Kd.R_alloc | apply Kd.R_drewN | apply Kd.R_drew)); exact HO227.out) (Kd.R_base ho83) hb); have n6_ := Aside0.mk (Kd.N_elder' (by (with_reducible repeat (first | apply Kd.N_alloc | apply Kd.N_drewN | apply Kd.N_drew)); exact HO230.out) (Kd.R_base ho83) hb); have n7_ := Aside0.mk (Kd.N_elder' (by (with_reducible repeat (first | apply Kd.N_alloc | apply Kd.N_drewN | apply Kd.N_drew)); exact HO235.out) (Kd.R_base ho83) hb); have n8_ := Aside0.mk (Kd.V_elder' (by (with_reducible repeat (first | apply Kd.V_alloc | apply Kd.V_drewN | apply Kd.V_drew)); exact HO240.out) (Kd.R_base ho83) hb); have n9_ := Aside0.mk (Kd.R_elder' (by (with_reducible repeat (first | apply Kd.R_alloc | apply Kd.R_drewN | apply Kd.R_drew)); exact HO244.out) (Kd.R_base ho83) hb); have n10_ := Aside0.mk (Kd.R_elder' (by (with_reducible repeat (first | apply Kd.R_alloc | apply Kd.R_drewN | apply Kd.R_drew)); exact HO247.out) (Kd.R_base ho83) hb); have n11_ := Aside0.mk (Kd.R_elder' (by (with_reducible repeat (first | apply Kd.R_alloc | apply Kd.R_drewN | apply Kd.R_drew)); exact HO251.out) (Kd.R_base ho83) hb); have n12_ := Aside0.mk (Kd.R_elder' (by (with_reducible repeat (first | apply Kd.R_alloc | apply Kd.R_drewN | apply Kd.R_drew)); exact HO254.out) (Kd.R_base ho83) hb); have n13_ := Aside0.mk (Kd.R_elder' (by (with_reducible repeat (first | apply Kd.R_alloc | apply Kd.R_drewN | apply Kd.R_drew)); exact HO258.out) (Kd.R_base ho83) hb); have n14_ := Aside0.mk (Kd.R_lower (Kd.R_new' (Kd.R_new' (Kd.R_new' (Kd.R_new' (Kd.R_new' (Kd.R_new' (Kd.R_new' (Kd.R_new' ho83 (Kd.R_lt (by (with_reducible repeat (first | apply Kd.R_alloc | apply Kd.R_drewN | apply Kd.R_drew)); exact HO201.out))) (Kd.R_lt (by (with_reducible repeat (first | apply Kd.R_alloc | apply Kd.R_drewN | apply Kd.R_drew)); exact HO214.out))) (Kd.R_lt (by (with_reducible repeat (first | apply Kd.R_alloc | apply Kd.R_drewN | apply Kd.R_drew)); exact HO227.out))) (Kd.R_lt (by (with_reducible repeat (first | apply Kd.R_alloc | apply Kd.R_drewN | apply Kd.R_drew)); exact HO244.out))) (Kd.R_lt (by (with_reducible repeat (first | apply Kd.R_alloc | apply Kd.R_drewN | apply Kd.R_drew)); exact HO247.out))) (Kd.R_lt (by (with_reducible repeat (first | apply Kd.R_alloc | apply Kd.R_drewN | apply Kd.R_drew)); exact HO251.out))) (Kd.R_lt (by (with_reducible repeat (first | apply Kd.R_alloc | apply Kd.R_drewN | apply Kd.R_drew)); exact HO254.out))) (Kd.R_lt (by (with_reducible repeat (first | apply Kd.R_alloc | apply Kd.R_drewN | apply Kd.R_drew)); exact HO258.out))) (below_size (by repeat (first | (with_reducible first | exact HB.out | apply below_alloc | apply pw_below_drewN | apply below_drew1) | exact HB.out)))); have n15_ := Aside0.mk (below_step (by repeat (first | (with_reducible first | exact HB.out | apply below_alloc | apply pw_below_drewN | apply below_drew1) | exact HB.out)) hb); clear HO192; clear HO201; clear HO204; clear HO214; clear HO217; clear HO227; clear HO230; clear HO235; clear HO240; clear HO244; clear HO247; clear HO251; clear HO254; clear HO258; clear HB; have HO192 := n0_; have HO201 := n1_; have HO204 := n2_; have HO214 := n3_; have HO217 := n4_; have HO227 := n5_; have HO230 := n6_; have HO235 := n7_; have HO240 := n8_; have HO244 := n9_; have HO247 := n10_; have HO251 := n11_; have HO254 := n12_; have HO258 := n13_; have HO261 := n14_; have HB := n15_; clear n0_ n1_ n2_ n3_ n4_ n5_ n6_ n7_ n8_ n9_ n10_ n11_ n12_ n13_ n14_ n15_; clear hb ho83; obtain ⟨Ao84, co84, eo84⟩ := Kd.R_slice HO258.out; subst eo84; obtain ⟨Ao85, co85, eo85⟩ := Kd.R_slice HO261.out; subst eo85) | (go_at_call 18; (with_reducible refine (skiarearef46_SameInts.calls k _ _ t256 _ _ y259 true _ ?side1 ?side2 ?side3 ?side4 A26.out).mono ?_); (case side1 => repeat (first | exact (Kd.R_reads' HO258.out).2.2 | (with_reducible refine Kd.C_alloc ?_ _) | (with_reducible refine Kd.C_drewN ?_ _) | (with_reducible refine Kd.C_drew ?_))); (case side2 => exact (Kd.R_reads' HO258.out).2.1); (case side3 => repeat (first | exact (Kd.R_reads' HO261.out).2.2 | (with_reducible refine Kd.C_alloc ?_ _) | (with_reducible refine Kd.C_drewN ?_ _) | (with_reducible refine Kd.C_drew ?_))); (case side4 => exact (Kd.R_reads' HO261.out).2.1); rintro e w' ⟨rfl, ⟨nd, rfl⟩⟩) | (go_at_call 19; (with_reducible refine (winch_Swept.calls _ _ y190 300 t263 _ ?side1 ?side2 A28.out).mono ?_); (case side1 => repeat (first | exact (Kd.N_reads' HO192.out).2.2 | (with_reducible refine Kd.C_alloc ?_ _) | (with_reducible refine Kd.C_drewN ?_ _) | (with_reducible refine Kd.C_drew ?_))); (case side2 => exact (Kd.N_reads' HO192.out).2.1); rintro e w86 ⟨v264, rfl, ho0, hb⟩; have n0_ := Aside0.mk (Kd.N_elder' (by (with_reducible repeat (first | apply Kd.N_alloc | apply Kd.N_drewN | apply Kd.N_drew)); exact HO192.out) (Kd.R_base ho0) hb); have n1_ := Aside0.mk (Kd.R_elder' (by (with_reducible repeat (first | apply Kd.R_alloc | apply Kd.R_drewN | apply Kd.R_drew)); exact HO201.out) (Kd.R_base ho0) hb); have n2_ := Aside0.mk (Kd.N_elder' (by (with_reducible repeat (first | apply Kd.N_alloc | apply Kd.N_drewN | apply Kd.N_drew)); exact HO204.out) (Kd.R_base ho0) hb); have n3_ := Aside0.mk (Kd.R_elder' (by (with_reducible repeat (first | apply Kd.R_alloc | apply Kd.R_drewN | apply Kd.R_drew)); exact HO214.out) (Kd.R_base ho0) hb); have n4_ := Aside0.mk (Kd.N_elder' (by (with_reducible repeat (first | apply Kd.N_alloc | apply Kd.N_drewN | apply Kd.N_drew)); exact HO217.out) (Kd.R_base ho0) hb); have n5_ := Aside0.mk (Kd.R_elder' (by (with_reducible repeat (first | apply Kd.R_alloc | apply Kd.R_drewN | apply Kd.R_drew)); exact HO227.out) (Kd.R_base ho0) hb); have n6_ := Aside0.mk (Kd.N_elder' (by (with_reducible repeat (first | apply Kd.N_alloc | apply Kd.N_drewN | apply Kd.N_drew)); exact HO230.out) (Kd.R_base ho0) hb); have n7_ := Aside0.mk (Kd.N_elder' (by (with_reducible repeat (first | apply Kd.N_alloc | apply Kd.N_drewN | apply Kd.N_drew)); exact HO235.out) (Kd.R_base ho0) hb); have n8_ := Aside0.mk (Kd.V_elder' (by (with_reducible repeat (first | apply Kd.V_alloc | apply Kd.V_drewN | apply Kd.V_drew)); exact HO240.out) (Kd.R_base ho0) hb); have n9_ := Aside0.mk (Kd.R_elder' (by (with_reducible repeat (first | apply Kd.R_alloc | apply Kd.R_drewN | apply Kd.R_drew)); exact HO244.out) (Kd.R_base ho0) hb); have n10_ := Aside0.mk (Kd.R_elder' (by (with_reducible repeat (first | apply Kd.R_alloc | apply Kd.R_drewN | apply Kd.R_drew)); exact HO247.out) (Kd.R_base ho0) hb); have n11_ := Aside0.mk (Kd.R_elder' (by (with_reducible repeat (first | apply Kd.R_alloc | apply Kd.R_drewN | apply Kd.R_drew)); exact HO251.out) (Kd.R_base ho0) hb); have n12_ := Aside0.mk (Kd.R_elder' (by (with_reducible repeat (first | apply Kd.R_alloc | apply Kd.R_drewN | apply Kd.R_drew)); exact HO254.out) (Kd.R_base ho0) hb); have n13_ := Aside0.mk (Kd.R_elder' (by (with_reducible repeat (first | apply Kd.R_alloc | apply Kd.R_drewN | apply Kd.R_drew)); exact HO258.out) (Kd.R_base ho0) hb); have n14_ := Aside0.mk (Kd.R_elder' (by (with_reducible repeat (first | apply Kd.R_alloc | apply Kd.R_drewN | apply Kd.R_drew)); exact HO261.out) (Kd.R_base ho0) hb); have n15_ := Aside0.mk (Kd.R_lower (Kd.R_new' (Kd.R_new' (Kd.R_new' (Kd.R_new' (Kd.R_new' (Kd.R_new' (Kd.R_new' (Kd.R_new' (Kd.R_new' ho0 (Kd.R_lt (by (with_reducible repeat (first | apply Kd.R_alloc | apply Kd.R_drewN | apply Kd.R_drew)); exact HO201.out))) (Kd.R_lt (by (with_reducible repeat (first | apply Kd.R_alloc | apply Kd.R_drewN | apply Kd.R_drew)); exact HO214.out))) (Kd.R_lt (by (with_reducible repeat (first | apply Kd.R_alloc | apply Kd.R_drewN | apply Kd.R_drew)); exact HO227.out))) (Kd.R_lt (by (with_reducible repeat (first | apply Kd.R_alloc | apply Kd.R_drewN | apply Kd.R_drew)); exact HO244.out))) (Kd.R_lt (by (with_reducible repeat (first | apply Kd.R_alloc | apply Kd.R_drewN | apply Kd.R_drew)); exact HO247.out))) (Kd.R_lt (by (with_reducible repeat (first | apply Kd.R_alloc | apply Kd.R_drewN | apply Kd.R_drew)); exact HO251.out))) (Kd.R_lt (by (with_reducible repeat (first | apply Kd.R_alloc | apply Kd.R_drewN | apply Kd.R_drew)); exact HO254.out))) (Kd.R_lt (by (with_reducible repeat (first | apply Kd.R_alloc | apply Kd.R_drewN | apply Kd.R_drew)); exact HO258.out))) (Kd.R_lt (by (with_reducible repeat (first | apply Kd.R_alloc | apply Kd.R_drewN | apply Kd.R_drew)); exact HO261.out))) (below_size (by repeat (first | (with_reducible first | exact HB.out | apply below_alloc | apply pw_below_drewN | apply below_drew1) | exact HB.out)))); have n16_ := Aside0.mk (below_step (by repeat (first | (with_reducible first | exact HB.out | apply below_alloc | apply pw_below_drewN | apply below_drew1) | exact HB.out)) hb); clear HO192; clear HO201; clear HO204; clear HO214; clear HO217; clear HO227; clear HO230; clear HO235; clear HO240; clear HO244; clear HO247; clear HO251; clear HO254; clear HO258; clear HO261; clear HB; have HO192 := n0_; have HO201 := n1_; have HO204 := n2_; have HO214 := n3_; have HO217 := n4_; have HO227 := n5_; have HO230 := n6_; have HO235 := n7_; have HO240 := n8_; have HO244 := n9_; have HO247 := n10_; have HO251 := n11_; have HO254 := n12_; have HO258 := n13_; have HO261 := n14_; have HO265 := n15_; have HB := n16_; clear n0_ n1_ n2_ n3_ n4_ n5_ n6_ n7_ n8_ n9_ n10_ n11_ n12_ n13_ n14_ n15_ n16_; (try clear hb); (try clear hb2); (try clear hk); (try clear hi); (try clear ho0); obtain ⟨Ao87, co87, eo87⟩ := Kd.R_slice HO265.out; subst eo87) | ((with_reducible refine gate_callee (f := 23) rfl ?_); refine goesL_ (some 89) rfl rfl Try.func23 (by kernel_rfl) rfl #[.slice Ao49 y190.length co49, .int .i64 7, .agg #[.int .i64 0, .int .i64 150]] rfl (by (try simp only [List.map_toArray, List.map_cons, List.map_nil]); first | done | rfl | (simp only [List.length_drop, List.length_take]; rfl)) ?_; (with_reducible refine (winch_Free.calls k _ _ y190 7 0 150 true _ ?side1 ?side2 A30.out).mono ?_); (case side1 => repeat (first | exact (Kd.N_reads' HO192.out).2.2 | (with_reducible refine Kd.C_alloc ?_ _) | (with_reducible refine Kd.C_drewN ?_ _) | (with_reducible refine Kd.C_drew ?_))); (case side2 => exact (Kd.N_reads' HO192.out).2.1); rintro e w88 ⟨rfl, hb⟩; refine ⟨_, rfl, ?_⟩; have n0_ := Aside0.mk (Kd.N_below (by (with_reducible repeat (first | apply Kd.N_alloc | apply Kd.N_drewN | apply Kd.N_drew)); exact HO192.out) hb); have n1_ := Aside0.mk (Kd.R_below (by (with_reducible repeat (first | apply Kd.R_alloc | apply Kd.R_drewN | apply Kd.R_drew)); exact HO201.out) hb); have n2_ := Aside0.mk (Kd.N_below (by (with_reducible repeat (first | apply Kd.N_alloc | apply Kd.N_drewN | apply Kd.N_drew)); exact HO204.out) hb); have n3_ := Aside0.mk (Kd.R_below (by (with_reducible repeat (first | apply Kd.R_alloc | apply Kd.R_drewN | apply Kd.R_drew)); exact HO214.out) hb); have n4_ := Aside0.mk (Kd.N_below (by (with_reducible repeat (first | apply Kd.N_alloc | apply Kd.N_drewN | apply Kd.N_drew)); exact HO217.out) hb); have n5_ := Aside0.mk (Kd.R_below (by (with_reducible repeat (first | apply Kd.R_alloc | apply Kd.R_drewN | apply Kd.R_drew)); exact HO227.out) hb); have n6_ := Aside0.mk (Kd.N_below (by (with_reducible repeat (first | apply Kd.N_alloc | apply Kd.N_drewN | apply Kd.N_drew)); exact HO230.out) hb); have n7_ := Aside0.mk (Kd.N_below (by (with_reducible repeat (first | apply Kd.N_alloc | apply Kd.N_drewN | apply Kd.N_drew)); exact HO235.out) hb); have n8_ := Aside0.mk (Kd.V_below (by (with_reducible repeat (first | apply Kd.V_alloc | apply Kd.V_drewN | apply Kd.V_drew)); exact HO240.out) hb); have n9_ := Aside0.mk (Kd.R_below (by (with_reducible repeat (first | apply Kd.R_alloc | apply Kd.R_drewN | apply Kd.R_drew)); exact HO244.out) hb); have n10_ := Aside0.mk (Kd.R_below (by (with_reducible repeat (first | apply Kd.R_alloc | apply Kd.R_drewN | apply Kd.R_drew)); exact HO247.out) hb); have n11_ := Aside0.mk (Kd.R_below (by (with_reducible repeat (first | apply Kd.R_alloc | apply Kd.R_drewN | apply Kd.R_drew)); exact HO251.out) hb); have n12_ := Aside0.mk (Kd.R_below (by (with_reducible repeat (first | apply Kd.R_alloc | apply Kd.R_drewN | apply Kd.R_drew)); exact HO254.out) hb); have n13_ := Aside0.mk (Kd.R_below (by (with_reducible repeat (first | apply Kd.R_alloc | apply Kd.R_drewN | apply Kd.R_drew)); exact HO258.out) hb); have n14_ := Aside0.mk (Kd.R_below (by (with_reducible repeat (first | apply Kd.R_alloc | apply Kd.R_drewN | apply Kd.R_drew)); exact HO261.out) hb); have n15_ := Aside0.mk (Kd.R_below (by (with_reducible repeat (first | apply Kd.R_alloc | apply Kd.R_drewN | apply Kd.R_drew)); exact HO265.out) hb); have n16_ := Aside0.mk (below_step (by repeat (first | (with_reducible first | exact HB.out | apply below_alloc | apply pw_below_drewN | apply below_drew1) | exact HB.out)) hb); clear HO192; clear HO201; clear HO204; clear HO214; clear HO217; clear HO227; clear HO230; clear HO235; clear HO240; clear HO244; clear HO247; clear HO251; clear HO254; clear HO258; clear HO261; clear HO265; clear HB; have HO192 := n0_; have HO201 := n1_; have HO204 := n2_; have HO214 := n3_; have HO217 := n4_; have HO227 := n5_; have HO230 := n6_; have HO235 := n7_; have HO240 := n8_; have HO244 := n9_; have HO247 := n10_; have HO251 := n11_; have HO254 := n12_; have HO258 := n13_; have HO261 := n14_; have HO265 := n15_; have HB := n16_; clear n0_ n1_ n2_ n3_ n4_ n5_ n6_ n7_ n8_ n9_ n10_ n11_ n12_ n13_ n14_ n15_ n16_; (try clear hb); (try clear hb2); (try clear hk); (try clear hi)) | (go_at_call 23; (with_reducible refine (winch_Free.calls k _ _ y190 7 0 151 t267 _ ?side1 ?side2 A32.out).mono ?_); (case side1 => repeat (first | exact (Kd.N_reads' HO192.out).2.2 | (with_reducible refine Kd.C_alloc ?_ _) | (with_reducible refine Kd.C_drewN ?_ _) | (with_reducible refine Kd.C_drew ?_))); (case side2 => exact (Kd.N_reads' HO192.out).2.1); rintro e w89 ⟨rfl, hb⟩; have n0_ := Aside0.mk (Kd.N_below (by (with_reducible repeat (first | apply Kd.N_alloc | apply Kd.N_drewN | apply Kd.N_drew)); exact HO192.out) hb); have n1_ := Aside0.mk (Kd.R_below (by (with_reducible repeat (first | apply Kd.R_alloc | apply Kd.R_drewN | apply Kd.R_drew)); exact HO201.out) hb); have n2_ := Aside0.mk (Kd.N_below (by (with_reducible repeat (first | apply Kd.N_alloc | apply Kd.N_drewN | apply Kd.N_drew)); exact HO204.out) hb); have n3_ := Aside0.mk (Kd.R_below (by (with_reducible repeat (first | apply Kd.R_alloc | apply Kd.R_drewN | apply Kd.R_drew)); exact HO214.out) hb); have n4_ := Aside0.mk (Kd.N_below (by (with_reducible repeat (first | apply Kd.N_alloc | apply Kd.N_drewN | apply Kd.N_drew)); exact HO217.out) hb); have n5_ := Aside0.mk (Kd.R_below (by (with_reducible repeat (first | apply Kd.R_alloc | apply Kd.R_drewN | apply Kd.R_drew)); exact HO227.out) hb); have n6_ := Aside0.mk (Kd.N_below (by (with_reducible repeat (first | apply Kd.N_alloc | apply Kd.N_drewN | apply Kd.N_drew)); exact HO230.out) hb); have n7_ := Aside0.mk (Kd.N_below (by (with_reducible repeat (first | apply Kd.N_alloc | apply Kd.N_drewN | apply Kd.N_drew)); exact HO235.out) hb); have n8_ := Aside0.mk (Kd.V_below (by (with_reducible repeat (first | apply Kd.V_alloc | apply Kd.V_drewN | apply Kd.V_drew)); exact HO240.out) hb); have n9_ := Aside0.mk (Kd.R_below (by (with_reducible repeat (first | apply Kd.R_alloc | apply Kd.R_drewN | apply Kd.R_drew)); exact HO244.out) hb); have n10_ := Aside0.mk (Kd.R_below (by (with_reducible repeat (first | apply Kd.R_alloc | apply Kd.R_drewN | apply Kd.R_drew)); exact HO247.out) hb); have n11_ := Aside0.mk (Kd.R_below (by (with_reducible repeat (first | apply Kd.R_alloc | apply Kd.R_drewN | apply Kd.R_drew)); exact HO251.out) hb); have n12_ := Aside0.mk (Kd.R_below (by (with_reducible repeat (first | apply Kd.R_alloc | apply Kd.R_drewN | apply Kd.R_drew)); exact HO254.out) hb); have n13_ := Aside0.mk (Kd.R_below (by (with_reducible repeat (first | apply Kd.R_alloc | apply Kd.R_drewN | apply Kd.R_drew)); exact HO258.out) hb); have n14_ := Aside0.mk (Kd.R_below (by (with_reducible repeat (first | apply Kd.R_alloc | apply Kd.R_drewN | apply Kd.R_drew)); exact HO261.out) hb); have n15_ := Aside0.mk (Kd.R_below (by (with_reducible repeat (first | apply Kd.R_alloc | apply Kd.R_drewN | apply Kd.R_drew)); exact HO265.out) hb); have n16_ := Aside0.mk (below_step (by repeat (first | (with_reducible first | exact HB.out | apply below_alloc | apply pw_below_drewN | apply below_drew1) | exact HB.out)) hb); clear HO192; clear HO201; clear HO204; clear HO214; clear HO217; clear HO227; clear HO230; clear HO235; clear HO240; clear HO244; clear HO247; clear HO251; clear HO254; clear HO258; clear HO261; clear HO265; clear HB; have HO192 := n0_; have HO201 := n1_; have HO204 := n2_; have HO214 := n3_; have HO217 := n4_; have HO227 := n5_; have HO230 := n6_; have HO235 := n7_; have HO240 := n8_; have HO244 := n9_; have HO247 := n10_; have HO251 := n11_; have HO254 := n12_; have HO258 := n13_; have HO261 := n14_; have HO265 := n15_; have HB := n16_; clear n0_ n1_ n2_ n3_ n4_ n5_ n6_ n7_ n8_ n9_ n10_ n11_ n12_ n13_ n14_ n15_ n16_; (try clear hb); (try clear hb2); (try clear hk); (try clear hi)))
                          go_ret
                          exact ⟨by first | rfl | (simp [errW_none, errW_some] <;> rfl) | (simp [*, errW_none, errW_some] <;> rfl), by repeat (first | (with_reducible first | exact HB.out | apply below_alloc | apply pw_below_drewN | apply below_drew1) | exact HB.out)⟩
                        · replace c31 := Bool.eq_false_iff.mpr c31
                          subst c31
                          have H1 : (none) = some r := by rw [if_neg (show ¬ (false = true) by decide)] at H; exact H
                          clear H
                          have H := H1
                          clear H1
                          exact absurd H (by simp)
                      · rw [if_neg c29] at H
                        exact absurd H (by simp)
                    · replace c27 := Bool.eq_false_iff.mpr c27
                      subst c27
                      have H1 : (none) = some r := by rw [if_neg (show ¬ (false = true) by decide)] at H; exact H
                      clear H
                      have H := H1
                      clear H1
                      exact absurd H (by simp)
                  · replace c24 := Bool.eq_false_iff.mpr c24
                    subst c24
                    have H1 : (none) = some r := by rw [if_neg (show ¬ (false = true) by decide)] at H; exact H
                    clear H
                    have H := H1
                    clear H1
                    exact absurd H (by simp)
                · replace c21 := Bool.eq_false_iff.mpr c21
                  subst c21
                  have H1 : (none) = some r := by rw [if_neg (show ¬ (false = true) by decide)] at H; exact H
                  clear H
                  have H := H1
                  clear H1
                  exact absurd H (by simp)
              · replace c18 := Bool.eq_false_iff.mpr c18
                subst c18
                have H1 : (none) = some r := by rw [if_neg (show ¬ (false = true) by decide)] at H; exact H
                clear H
                have H := H1
                clear H1
                exact absurd H (by simp)
            · rw [if_neg c16] at H
              exact absurd H (by simp)
          · rw [if_neg c14] at H
            have c14b0 : ((t215.length : Int) == 3) = false := beq_eq_false_iff_ne.mpr c14
            have c14b1 : ((t215.length : Int) != 3) = true := bne_iff_ne.mpr c14
            exact absurd H (by simp)
        · rw [if_neg c13] at H
          have c13b0 : (t231 == 15) = false := beq_eq_false_iff_ne.mpr c13
          have c13b1 : (t231 != 15) = true := bne_iff_ne.mpr c13
          exact absurd H (by simp)
      · rw [if_neg c12] at H
        have c12b0 : (t218 == 0) = false := beq_eq_false_iff_ne.mpr c12
        have c12b1 : (t218 != 0) = true := bne_iff_ne.mpr c12
        exact absurd H (by simp)
    · rw [if_neg c11] at H
      have c11b0 : (t205 == 15) = false := beq_eq_false_iff_ne.mpr c11
      have c11b1 : (t205 != 15) = true := bne_iff_ne.mpr c11
      exact absurd H (by simp)
  · rw [if_neg c10] at H
    have c10b0 : (t232 == 0) = false := beq_eq_false_iff_ne.mpr c10
    have c10b1 : (t232 != 0) = true := bne_iff_ne.mpr c10
    exact absurd H (by simp)

/-! ### skiarealaw46_few: function 11 -/
def skiarealaw46_few.l0 : Nat → List (S29) → Int → Option (Bool)
  | 0, _, _ => none
  | k + 1, x0, x3 => if x3 < (x0.length : Int) then (if 0 ≤ x3 then (if (((rd_T29 x0 x3).f3).length : Int) > 100 then (some false) else (skiarealaw46_few.l0 k x0 (wrap64 (x3 + 1)))) else (none)) else (some true)
def skiarealaw46_few.f (k : Nat) (l0 : List (S29)) : Option (Bool) := if (l0.length : Int) > 40 then (some false) else (skiarealaw46_few.l0 k l0 0)
theorem skiarealaw46_few.mono_l : ∀ k, (∀ y0 y1, LeO (skiarealaw46_few.l0 k y0 y1) (skiarealaw46_few.l0 (k + 1) y0 y1))
  | 0 => fun _ _ r h => by simp [skiarealaw46_few.l0] at h
  | k + 1 => by
    have ih0 := skiarealaw46_few.mono_l k
    · intro y0 y1
      unfold skiarealaw46_few.l0
      repeat' first
      | (with_reducible exact ih0 _ _)
      | (with_reducible exact LeO.refl _)
      | (with_reducible exact LeO.none _)
      | (with_reducible refine LeO.ite ?_ ?_)
      | (with_reducible refine LeO.bind ?_ (fun _ => ?_))
      | exact ih0 _ _
      | exact LeO.none _
      | refine LeO.ite ?_ ?_
      | refine LeO.bind ?_ (fun _ => ?_)
theorem skiarealaw46_few.mono : ∀ a0 k, LeO (skiarealaw46_few.f k a0) (skiarealaw46_few.f (k + 1) a0) := by
  intro a0 k
  have ih0 := skiarealaw46_few.mono_l k
  unfold skiarealaw46_few.f
  repeat' first
      | (with_reducible exact ih0 _ _)
      | (with_reducible exact LeO.refl _)
      | (with_reducible exact LeO.none _)
      | (with_reducible refine LeO.ite ?_ ?_)
      | (with_reducible refine LeO.bind ?_ (fun _ => ?_))
      | exact ih0 _ _
      | exact LeO.none _
      | refine LeO.ite ?_ ?_
      | refine LeO.bind ?_ (fun _ => ?_)
set_option maxHeartbeats 8000000 in
set_option maxRecDepth 100000 in
theorem skiarealaw46_few.calls (k : Nat) (A0 : Option Addr) (c0 : Nat) (l0 : List (S29)) (r : Bool) (w : World) (hr0 : Kd.C k29 w A0 l0.length l0) (hc0 : l0.length ≤ c0) (h : skiarealaw46_few.f k l0 = some r) :
    Calls Try.prog 11 #[.slice A0 l0.length c0] w fun e w' => e = .returned (.bool r) ∧ Drawn0 w w' := by
  have HR0 := Aside0.mk hr0
  have HC0 := Aside0.mk hc0
  clear hr0 hc0
  have H : (if (l0.length : Int) > 40 then (some false) else (skiarealaw46_few.l0 k l0 0)) = some r := h
  clear h
  by_cases c2 : (l0.length : Int) > 40
  · rw [if_pos c2] at H
    have c2b0 : decide (40 < (l0.length : Int)) = true := decide_eq_true c2
    have c2b1 : decide (40 < l0.length) = true := decide_eq_true (by omega)
    clear c2
    obtain rfl := Option.some.inj H
    go_enter Try.func11, Try.ntmps11
    go_wp2
    go_ret
    exact ⟨by first | rfl | (simp; done) | (simp [*]; done), by repeat (first | exact Drawn0.refl _ | apply Drawn0.step)⟩
  · rw [if_neg c2] at H
    have c2b0 : decide (40 < (l0.length : Int)) = false := decide_eq_false c2
    have c2b1 : decide (40 < l0.length) = false := decide_eq_false (by omega)
    clear c2
    have H' := Aside0.mk H
    clear H
    go_enter Try.func11, Try.ntmps11
    go_wp2
    go_loopg [3] k (fun kq v3 w' => ∃ (x3_1 : Int), v3 = .int .i64 x3_1 ∧ Aside0 (skiarealaw46_few.l0 kq l0 x3_1 = some r) ∧ Aside0 (kq ≤ k) ∧ Drawn0 w w')
    case atStart => exact ⟨(0), (by first | rfl | (simp; done) | (simp [*]; done)), H', ⟨Nat.le_refl _⟩, by repeat (first | exact Drawn0.refl _ | apply Drawn0.step)⟩
    case round =>
      clear H'
      try clear c1
      try clear c2
      try clear c2b0
      try clear c2b1
      try clear p2
      obtain ⟨x3_1, rfl, HA, HK1, ⟨m1, rfl⟩⟩ := hrel
      cases gk with
      | zero => exact absurd HA.out (by simp [skiarealaw46_few.l0])
      | succ k1 =>
        have H := HA.out
        clear HA
        simp only [skiarealaw46_few.l0] at H
        by_cases c3 : x3_1 < (l0.length : Int)
        · rw [if_pos c3] at H
          have c3b0 : decide (x3_1 < (l0.length : Int)) = true := decide_eq_true c3
          clear c3
          by_cases c4 : 0 ≤ x3_1
          · rw [if_pos c4] at H
            have c4b0 : decide (0 ≤ x3_1) = true := decide_eq_true c4
            clear c4
            by_cases c5 : (((rd_T29 l0 x3_1).f3).length : Int) > 100
            · rw [if_pos c5] at H
              have c5b0 : decide (100 < (((rd_T29 l0 x3_1).f3).length : Int)) = true := decide_eq_true c5
              have c5b1 : decide (100 < ((rd_T29 l0 x3_1).f3).length) = true := decide_eq_true (by omega)
              clear c5
              obtain rfl := Option.some.inj H
              have p268 : 0 ≤ (x3_1 : Int) := of_decide_eq_true (by first | (with_reducible assumption) | assumption)
              have q268 : x3_1 < (l0.length : Int) := of_decide_eq_true (by first | (with_reducible assumption) | assumption)
              obtain ⟨ad268, A268_3, c268_3, e268, hx268_0, hx268_1, hx268_2, hx268_3, hl268_3, hi268_3⟩ := at_T29 HR0.out x3_1 p268 q268
              cases e268
              have HR268_3 := Aside0.mk hi268_3
              have HC268_3 := Aside0.mk hl268_3
              clear hi268_3 hl268_3
              replace p268 := eq_true p268
              replace q268 := eq_true q268
              go_wp2
              go_ret
              exact ⟨by first | rfl | (simp; done) | (simp [*]; done), by repeat (first | exact Drawn0.refl _ | apply Drawn0.step)⟩
            · rw [if_neg c5] at H
              have c5b0 : decide (100 < (((rd_T29 l0 x3_1).f3).length : Int)) = false := decide_eq_false c5
              have c5b1 : decide (100 < ((rd_T29 l0 x3_1).f3).length) = false := decide_eq_false (by omega)
              clear c5
              have H' := Aside0.mk H
              clear H
              have p268 : 0 ≤ (x3_1 : Int) := of_decide_eq_true (by first | (with_reducible assumption) | assumption)
              have q268 : x3_1 < (l0.length : Int) := of_decide_eq_true (by first | (with_reducible assumption) | assumption)
              obtain ⟨ad268, A268_3, c268_3, e268, hx268_0, hx268_1, hx268_2, hx268_3, hl268_3, hi268_3⟩ := at_T29 HR0.out x3_1 p268 q268
              cases e268
              have HR268_3 := Aside0.mk hi268_3
              have HC268_3 := Aside0.mk hl268_3
              clear hi268_3 hl268_3
              replace p268 := eq_true p268
              replace q268 := eq_true q268
              go_wp2
              go_roundg k1
              case measure => have := HK1.out; omega
              case rel => exact ⟨(wrap64 (x3_1 + 1)), (by first | rfl | (simp; done) | (simp [*]; done)), H', ⟨by have := HK1.out; omega⟩, by repeat (first | exact Drawn0.refl _ | apply Drawn0.step)⟩
          · rw [if_neg c4] at H
            exact absurd H (by simp)
        · rw [if_neg c3] at H
          have c3b0 : decide (x3_1 < (l0.length : Int)) = false := decide_eq_false c3
          clear c3
          obtain rfl := Option.some.inj H
          go_wp2
          go_ret
          exact ⟨by first | rfl | (simp; done) | (simp [*]; done), by repeat (first | exact Drawn0.refl _ | apply Drawn0.step)⟩

end Go.Proofs.Ytipnnihjkipnoaa.PAll
