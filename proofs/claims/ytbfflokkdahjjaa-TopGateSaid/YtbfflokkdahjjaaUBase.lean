/- What the functions below the gate answer, in plain lists: contains, the binary search, the reference's Right of a list, Find. -/
import Derived.Test.YtbfflokkdahjjaaPAllx10
import Derived.Test.YtbfflokkdahjjaaPAllB
import Derived.Test.YtbfflokkdahjjaaPAllx19
import Derived.Test.YtbfflokkdahjjaaPAllx5
import Derived.Test.YtbfflokkdahjjaaPAllx6
import Derived.Test.YtbfflokkdahjjaaPAllx9
import Derived.Test.YtbfflokkdahjjaaGClone
namespace Go.Proofs.Ytbfflokkdahjjaa.Pure
open Go.RowKit Go.Proofs.Ytbfflokkdahjjaa.PAll Go.Proofs.YtbfflokkdahjjaaW.PrintWords Go.Proofs.YtbfflokkdahjjaaW.PrintLast Go.Proofs.YtbfflokkdahjjaaW.PrintMore
set_option linter.unusedVariables false
set_option linter.unusedSimpArgs false
theorem wr1 {i : Nat} (h : i < 4611686018427387904) : wrap64 ((i : Int) + 1) = ((i + 1 : Nat) : Int) := by unfold wrap64; omega
theorem wrm {i : Nat} (h : i < 4611686018427387904) (h0 : 0 < i) : wrap64 ((i : Int) - 1) = ((i - 1 : Nat) : Int) := by unfold wrap64; omega
theorem wr_small {x : Int} (h : -4611686018427387904 < x) (h2 : x < 4611686018427387904) : wrap64 x = x := by unfold wrap64; omega
theorem rd_nat (l : List Int) (i : Nat) (h : i < l.length) : rd l (i : Int) = l[i] := by simp [rd, List.getD_eq_getElem?_getD, h]
theorem Ev.cg {α : Type} {g f : Nat → Option α} {r : α} (k : Ev f r) (h : ∀ k, g k = f k) : Ev g r := Ev.congr h k
theorem ev_some {α : Type} {r s : α} (h : r = s) : Ev (fun _ => some r) s := by subst h; exact Ev.now r
theorem ev_some' {α : Type} {o : Option α} {s : α} (h : o = some s) : Ev (fun _ => o) s := by subst h; exact Ev.now s
def badNo (n : Int) : Bool := decide (n < 1) || decide (n > 9999)
def Inc (l : List Int) : Prop := l.Pairwise (· < ·)
instance (l : List Int) : Decidable (Inc l) := by unfold Inc; infer_instance
def rightC (v : Int) (l : List Int) : Int := if v < 0 ∨ v > 1000000 then 2 else if l.length > 200 then 4 else if l.any badNo = true then 2 else if Inc l then 0 else 11
theorem serial_eq (n : Int) : skiarearef27_serial.f n = some (!badNo n) := by
  unfold skiarearef27_serial.f badNo
  by_cases h : n ≥ 1
  · rw [if_pos h, decide_eq_false (show ¬ n < 1 by omega), Bool.false_or]
    congr 1
    by_cases h2 : n ≤ 9999
    · rw [decide_eq_true h2, decide_eq_false (show ¬ n > 9999 by omega)]; rfl
    · rw [decide_eq_false h2, decide_eq_true (show n > 9999 by omega)]; rfl
  · rw [if_neg h, decide_eq_true (show n < 1 by omega)]; rfl
def adj : List Int → Bool
  | a :: b :: r => decide (a < b) && adj (b :: r)
  | _ => true
theorem adj_inc : ∀ l : List Int, adj l = true ↔ Inc l
  | [] => by simp [adj, Inc]
  | [a] => by simp [adj, Inc]
  | a :: b :: r => by
    have ih := adj_inc (b :: r)
    unfold adj
    rw [Bool.and_eq_true, decide_eq_true_eq, ih]
    unfold Inc
    constructor
    · rintro ⟨h1, h2⟩
      refine List.pairwise_cons.2 ⟨fun x hx => ?_, h2⟩
      rcases List.mem_cons.1 hx with rfl | hx
      · exact h1
      · have := (List.pairwise_cons.1 h2).1 x hx
        omega
    · intro h
      obtain ⟨h1, h2⟩ := List.pairwise_cons.1 h
      exact ⟨h1 b (by simp), h2⟩
theorem rightR_l1 (v : Int) (l : List Int) (h : l.length ≤ 1000000) : ∀ (d i : Nat), i + 1 + d = l.length → Ev (fun k => skiarearef27_Right.l1 k ((i + 1 : Nat) : Int) v l) (if adj (l.drop i) = true then 0 else 11) := by
  intro d
  induction d with
  | zero =>
    intro i hi
    refine Ev.step (f := fun _ => some 0) (fun k => by simp only [skiarearef27_Right.l1]; rw [if_neg (by omega)]) (ev_some ?_)
    have h1 : i < l.length := by omega
    rw [List.drop_eq_getElem_cons h1, List.drop_of_length_le (by omega)]
    rfl
  | succ d ih =>
    intro i hi
    have h1 : i < l.length := by omega
    have h2 : i + 1 < l.length := by omega
    have hd : l.drop i = l[i] :: l[i + 1] :: l.drop (i + 2) := by rw [List.drop_eq_getElem_cons h1, List.drop_eq_getElem_cons h2]
    have hd2 : l.drop (i + 1) = l[i + 1] :: l.drop (i + 2) := by rw [List.drop_eq_getElem_cons h2]
    rw [hd]
    show Ev _ (if (decide (l[i] < l[i + 1]) && adj (l[i + 1] :: l.drop (i + 2))) = true then 0 else 11)
    rw [← hd2]
    by_cases c : l[i + 1] ≤ l[i]
    · refine Ev.step (f := fun _ => some 11) (fun k => by
        simp only [skiarearef27_Right.l1]
        rw [wrm (i := i + 1) (by omega) (by omega), Nat.add_sub_cancel, if_pos (by omega), if_pos (by omega), if_pos (by omega), if_pos (by omega), rd_nat _ _ h1, rd_nat _ _ h2, if_pos c]) (ev_some ?_)
      rw [decide_eq_false (by omega)]
      rfl
    · rw [decide_eq_true (by omega), Bool.true_and]
      refine Ev.step (f := fun k => skiarearef27_Right.l1 k ((i + 1 + 1 : Nat) : Int) v l) (fun k => by
        simp only [skiarearef27_Right.l1]
        rw [wrm (i := i + 1) (by omega) (by omega), Nat.add_sub_cancel, if_pos (by omega), if_pos (by omega), if_pos (by omega), if_pos (by omega), rd_nat _ _ h1, rd_nat _ _ h2, if_neg c, wr1 (i := i + 1) (by omega)]) (ih (i + 1) (by omega))
theorem rightR_l0 (v : Int) (l : List Int) (h : l.length ≤ 1000000) : ∀ (d i : Nat), i + d = l.length → Ev (fun k => skiarearef27_Right.l0 k i v l) (if (l.drop i).any badNo = true then 2 else if Inc l then 0 else 11) := by
  intro d
  induction d with
  | zero =>
    intro i hi
    rw [List.drop_of_length_le (by omega), List.any_nil, if_neg (by decide)]
    refine Ev.step (f := fun k => skiarearef27_Right.l1 k ((0 + 1 : Nat) : Int) v l) (fun k => by simp only [skiarearef27_Right.l0]; rw [if_neg (by omega)]; rfl) ?_
    have e : (if Inc l then (0 : Int) else 11) = if adj l = true then 0 else 11 := by
      by_cases c : Inc l
      · rw [if_pos c, if_pos ((adj_inc l).2 c)]
      · rw [if_neg c, if_neg (fun h => c ((adj_inc l).1 h))]
    rw [e]
    rcases Nat.eq_zero_or_pos l.length with h0 | h0
    · obtain rfl := List.eq_nil_of_length_eq_zero h0
      exact Ev.step (f := fun _ => some 0) (fun k => by simp only [skiarearef27_Right.l1]; rfl) (Ev.now _)
    · have := rightR_l1 v l h (l.length - 1) 0 (by omega)
      rwa [List.drop_zero] at this
  | succ d ih =>
    intro i hi
    have h1 : i < l.length := by omega
    rw [List.drop_eq_getElem_cons h1, List.any_cons]
    cases hb : badNo l[i] with
    | true =>
      rw [Bool.true_or, if_pos rfl]
      exact Ev.step (f := fun _ => some 2) (fun k => by simp only [skiarearef27_Right.l0]; rw [if_pos (by omega), if_pos (by omega), rd_nat _ _ h1, serial_eq, hb]; rfl) (Ev.now _)
    | false =>
      rw [Bool.false_or]
      exact Ev.step (f := fun k => skiarearef27_Right.l0 k ((i + 1 : Nat) : Int) v l) (fun k => by simp only [skiarearef27_Right.l0]; rw [if_pos (by omega), if_pos (by omega), rd_nat _ _ h1, serial_eq, hb, wr1 (by omega)]; rfl) (ih (i + 1) (by omega))
theorem rightR_j (v : Int) (l : List Int) (b : Bool) (h : l.length ≤ 1000000) : Ev (fun k => skiarearef27_Right.j0 k b v l) (if b = true then 2 else if l.length > 200 then 4 else if l.any badNo = true then 2 else if Inc l then 0 else 11) := by
  cases b with
  | true => exact Ev.step (f := fun _ => some 2) (fun k => by simp only [skiarearef27_Right.j0]; rw [if_pos trivial]) (Ev.now _)
  | false =>
    simp only [if_neg (show ¬ (false = true) by decide)]
    by_cases c : l.length > 200
    · rw [if_pos c]
      exact Ev.step (f := fun _ => some 4) (fun k => by simp only [skiarearef27_Right.j0]; rw [if_neg (by decide), if_pos (by omega)]) (Ev.now _)
    · rw [if_neg c]
      have := rightR_l0 v l h l.length 0 (by omega)
      rw [List.drop_zero] at this
      exact Ev.step (f := fun k => skiarearef27_Right.l0 k ((0 : Nat) : Int) v l) (fun k => by simp only [skiarearef27_Right.j0]; rw [if_neg (by decide), if_neg (by omega)]; rfl) this
theorem rightR (v : Int) (l : List Int) (h : l.length ≤ 1000000) : Ev (fun k => skiarearef27_Right.f k v l) (rightC v l) := by
  unfold rightC
  by_cases c : v < 0
  · have := rightR_j v l true h
    rw [if_pos (.inl c)]
    exact Ev.cg this (fun k => by simp only [skiarearef27_Right.f]; rw [if_pos c])
  · by_cases c2 : v > 1000000
    · have := rightR_j v l true h
      rw [if_pos (.inr c2)]
      exact Ev.cg this (fun k => by simp only [skiarearef27_Right.f]; rw [if_neg c, decide_eq_true c2])
    · have := rightR_j v l false h
      rw [if_neg (by omega)]
      exact Ev.cg this (fun k => by simp only [skiarearef27_Right.f]; rw [if_neg c, decide_eq_false c2])
theorem right_zero (v : Int) (l : List Int) : rightC v l = 0 ↔ (0 ≤ v ∧ v ≤ 1000000) ∧ l.length ≤ 200 ∧ l.any badNo = false ∧ Inc l := by
  unfold rightC
  by_cases c : v < 0 ∨ v > 1000000
  · rw [if_pos c]
    constructor
    · intro h; simp at h
    · rintro ⟨h, _⟩; omega
  · rw [if_neg c]
    by_cases c2 : l.length > 200
    · rw [if_pos c2]
      constructor
      · intro h; simp at h
      · rintro ⟨_, h, _⟩; omega
    · rw [if_neg c2]
      cases hb : l.any badNo with
      | true => simp
      | false =>
        simp only [if_neg (show ¬ (false = true) by decide)]
        by_cases c3 : Inc l
        · rw [if_pos c3]; exact ⟨fun _ => ⟨by omega, by omega, by first | rfl | trivial, c3⟩, fun _ => rfl⟩
        · rw [if_neg c3]
          constructor
          · intro h; simp at h
          · rintro ⟨_, _, _, h⟩; exact absurd h c3
/-! ### Has -/
theorem half {i j : Nat} (h : i + j < 4000000) : wrap64 ((IntKind.u64.wrap (wrap64 ((i : Int) + (j : Int)))) / 2) = (((i + j) / 2 : Nat) : Int) := by
  rw [wr_small (x := (i : Int) + (j : Int)) (by omega) (by omega)]
  have : IntKind.u64.wrap ((i : Int) + (j : Int)) = (i : Int) + (j : Int) := by simp [IntKind.wrap, IntKind.signed, IntKind.bits]; omega
  rw [this, wr_small (by omega) (by omega)]
  omega
theorem less_eq (a b : Int) : cmp_Less_int.f a b = some (decide (a < b)) := by
  unfold cmp_Less_int.f cmp_isNaN_int.f
  simp
theorem nan_eq (a : Int) : slices_isNaN_int.f a = some false := by
  unfold slices_isNaN_int.f
  simp
theorem search_l0 (l : List Int) (t : Int) (hs : Inc l) (hb : l.length ≤ 1000000) : ∀ (g i j : Nat), j - i ≤ g → i ≤ j → j ≤ l.length → (∀ q, ∀ h : q < l.length, q < i → l[q] < t) → (∀ q, ∀ h : q < l.length, j ≤ q → t ≤ l[q]) →
    ∃ p : Int, Ev (fun k => slices_BinarySearch_int_int.l0 k l t (l.length : Int) i j) (p, decide (t ∈ l)) := by
  intro g
  induction g with
  | zero =>
    intro i j hg hij hj h1 h2
    obtain rfl : i = j := by omega
    refine ⟨(i : Int), ?_⟩
    by_cases c : i < l.length
    · by_cases e : l[i] = t
      · refine Ev.step (f := fun _ => some ((i : Int), true)) (fun k => by simp only [slices_BinarySearch_int_int.l0]; rw [if_neg (by omega), if_pos (by omega), if_pos (by omega), if_pos (by omega), rd_nat _ _ c, if_pos e]) (ev_some ?_)
        rw [decide_eq_true (by rw [← e]; exact List.getElem_mem c)]
      · refine Ev.step (f := fun _ => some ((i : Int), false)) (fun k => by simp only [slices_BinarySearch_int_int.l0]; rw [if_neg (by omega), if_pos (by omega), if_pos (by omega), if_pos (by omega), rd_nat _ _ c, if_neg e, nan_eq]; rfl) (ev_some ?_)
        rw [decide_eq_false]
        intro hm
        obtain ⟨q, hq, hqe⟩ := List.getElem_of_mem hm
        rcases Nat.lt_trichotomy q i with h | h | h
        · have := h1 q hq h; omega
        · subst h; exact e hqe
        · have h3 := List.pairwise_iff_getElem.1 hs i q c hq h
          have h4 := h2 i c (Nat.le_refl _)
          omega
    · refine Ev.step (f := fun _ => some ((i : Int), false)) (fun k => by simp only [slices_BinarySearch_int_int.l0]; rw [if_neg (by omega), if_neg (by omega)]) (ev_some ?_)
      rw [decide_eq_false]
      intro hm
      obtain ⟨q, hq, hqe⟩ := List.getElem_of_mem hm
      have := h1 q hq (by omega)
      omega
  | succ g ih =>
    intro i j hg hij hj h1 h2
    by_cases c : i < j
    · have hh : (i + j) / 2 < l.length := by omega
      by_cases e : l[(i + j) / 2] < t
      · obtain ⟨p, hp⟩ := ih ((i + j) / 2 + 1) j (by omega) (by omega) hj (fun q hq hlt => by
          rcases Nat.lt_or_ge q ((i + j) / 2) with h | h
          · have := List.pairwise_iff_getElem.1 hs q ((i + j) / 2) hq hh h; omega
          · obtain rfl : q = (i + j) / 2 := by omega
            exact e) h2
        refine ⟨p, Ev.step (f := fun k => slices_BinarySearch_int_int.l0 k l t (l.length : Int) (((i + j) / 2 + 1 : Nat) : Int) (j : Int)) (fun k => ?_) hp⟩
        simp only [slices_BinarySearch_int_int.l0]
        rw [half (by omega), if_pos (by omega), if_pos (by omega), if_pos (by omega), rd_nat _ _ hh, less_eq, decide_eq_true e, wr1 (by omega)]
        rfl
      · obtain ⟨p, hp⟩ := ih i ((i + j) / 2) (by omega) (by omega) (by omega) h1 (fun q hq hle => by
          rcases Nat.lt_or_ge ((i + j) / 2) q with h | h
          · have := List.pairwise_iff_getElem.1 hs ((i + j) / 2) q hh hq h; omega
          · obtain rfl : q = (i + j) / 2 := by omega
            omega)
        refine ⟨p, Ev.step (f := fun k => slices_BinarySearch_int_int.l0 k l t (l.length : Int) (i : Int) (((i + j) / 2 : Nat) : Int)) (fun k => ?_) hp⟩
        simp only [slices_BinarySearch_int_int.l0]
        rw [half (by omega), if_pos (by omega), if_pos (by omega), if_pos (by omega), rd_nat _ _ hh, less_eq, decide_eq_false e]
        rfl
    · exact ih i j (by omega) hij hj h1 h2
theorem hasW (v : Int) (l : List Int) (t : Int) (hs : Inc l) (hb : l.length ≤ 1000000) : Ev (fun k => revoke_Has.f k v l t) (decide (t ∈ l)) := by
  obtain ⟨p, hp⟩ := search_l0 l t hs hb l.length 0 l.length (by omega) (by omega) (Nat.le_refl _) (fun q _ h => absurd h (Nat.not_lt_zero _)) (fun q hq h => by omega)
  refine Ev.cg (f := fun k => (slices_BinarySearch_int_int.l0 k l t (l.length : Int) ((0 : Nat) : Int) (l.length : Int)).bind fun bt126 => (some bt126.2)) ?_ (fun k => rfl)
  exact Ev.bind (f := fun _ b => some b.2) hp (Ev.now _)
def idxOf (t : Int) : List Int → Int → Int
  | [], _ => -1
  | x :: r, i => if t = x then i else idxOf t r (i + 1)
theorem idx_mem (t : Int) : ∀ (l : List Int) (i : Int), 0 ≤ i → (idxOf t l i ≥ 0 ↔ t ∈ l)
  | [], i, _ => by simp [idxOf]
  | x :: r, i, h => by
    unfold idxOf
    by_cases e : t = x
    · rw [if_pos e]
      exact ⟨fun _ => by rw [e]; exact List.mem_cons_self, fun _ => h⟩
    · rw [if_neg e, idx_mem t r (i + 1) (by omega), List.mem_cons]
      exact ⟨.inr, fun h => h.resolve_left e⟩
theorem index_l0 (l : List Int) (t : Int) (hb : l.length ≤ 1000000) : ∀ (d i : Nat), i + d = l.length → Ev (fun k => slices_Index_int_int.l0 k l t (l.length : Int) i) (idxOf t (l.drop i) i) := by
  intro d
  induction d with
  | zero =>
    intro i hi
    rw [List.drop_of_length_le (by omega)]
    exact Ev.step (f := fun _ => some (-1)) (fun k => by simp only [slices_Index_int_int.l0]; rw [if_neg (by omega)]) (Ev.now _)
  | succ d ih =>
    intro i hi
    have h1 : i < l.length := by omega
    rw [List.drop_eq_getElem_cons h1]
    unfold idxOf
    by_cases e : t = l[i]
    · rw [if_pos e]
      exact Ev.step (f := fun _ => some (i : Int)) (fun k => by simp only [slices_Index_int_int.l0]; rw [if_pos (by omega), if_pos (by omega), if_pos (by omega), rd_nat _ _ h1, if_pos e]) (Ev.now _)
    · rw [if_neg e]
      exact Ev.step (f := fun k => slices_Index_int_int.l0 k l t (l.length : Int) ((i + 1 : Nat) : Int)) (fun k => by simp only [slices_Index_int_int.l0]; rw [if_pos (by omega), if_pos (by omega), if_pos (by omega), rd_nat _ _ h1, if_neg e, wr1 (by omega)]) (ih (i + 1) (by omega))
theorem contains (l : List Int) (t : Int) (hb : l.length ≤ 1000000) : Ev (fun k => slices_Contains_int_int.f k l t) (decide (t ∈ l)) := by
  have := index_l0 l t hb l.length 0 (by omega)
  rw [List.drop_zero] at this
  refine Ev.cg (f := fun k => (slices_Index_int_int.l0 k l t (l.length : Int) ((0 : Nat) : Int)).bind fun t139 => (some (decide (t139 ≥ 0)))) ?_ (fun k => rfl)
  refine Ev.bind (f := fun _ p => some (decide (p ≥ 0))) this (ev_some ?_)
  exact decide_eq_decide.2 (idx_mem t l 0 (Int.le_refl _))
/-! ### Find -/
def findP : List (S40) → Int → S40 × Bool
  | [], _ => (⟨0, 0, 0, 0, 0, [], [], ⟨0, 0⟩, 0⟩, false)
  | p :: l, id => if p.f0 = id then (p, true) else findP l id
def tup (x : S40 × Bool) : Int × Int × Int × Int × Int × List Int × (List (S73)) × Int × Int × Int × Bool :=
  (x.1.f0, x.1.f1, x.1.f2, x.1.f3, x.1.f4, x.1.f5, x.1.f6, x.1.f7.f0, x.1.f7.f1, x.1.f8, x.2)
/-- Lists of products whose operators and hours are few enough to be copied. -/
def Few (l : List (S40)) : Prop := ∀ p ∈ l, p.f5.length ≤ 1000000 ∧ p.f6.length ≤ 1000000
theorem rd_prod (l : List (S40)) (i : Nat) (h : i < l.length) : rd_T40 l (i : Int) = l[i] := by simp [rd_T40, List.getD_eq_getElem?_getD, h]
theorem find_l0 (l : List (S40)) (id : Int) (hf : Few l) (hb : l.length ≤ 1000000) : ∀ (d i : Nat), i + d = l.length → Ev (fun k => product_Find.l0 k id l (l.length : Int) i) (tup (findP (l.drop i) id)) := by
  intro d
  induction d with
  | zero =>
    intro i hi
    rw [List.drop_of_length_le (by omega)]
    exact Ev.step (f := fun _ => some (tup (findP [] id))) (fun k => by simp only [product_Find.l0]; rw [if_neg (by omega)]; rfl) (Ev.now _)
  | succ d ih =>
    intro i hi
    have h1 : i < l.length := by omega
    rw [List.drop_eq_getElem_cons h1]
    unfold findP
    have hp := hf l[i] (List.getElem_mem h1)
    by_cases e : l[i].f0 = id
    · rw [if_pos e]
      refine Ev.step (f := fun _ => some (tup (l[i], true))) (fun k => ?_) (Ev.now _)
      simp only [product_Find.l0]
      rw [if_pos (by omega), if_pos (by omega), if_pos (by omega), rd_prod _ _ h1, if_pos e]
      unfold product_copied.f slices_Clone_int_int.f api_Hours.f
      rw [if_pos hp.1]
      simp only [Option.bind_some]
      rw [if_pos hp.2]
      rfl
    · rw [if_neg e]
      exact Ev.step (f := fun k => product_Find.l0 k id l (l.length : Int) ((i + 1 : Nat) : Int)) (fun k => by simp only [product_Find.l0]; rw [if_pos (by omega), if_pos (by omega), if_pos (by omega), rd_prod _ _ h1, if_neg e, wr1 (by omega)]) (ih (i + 1) (by omega))
theorem find (l : List (S40)) (id : Int) (hf : Few l) (hb : l.length ≤ 1000000) : Ev (fun k => product_Find.f k l id) (tup (findP l id)) := by
  have := find_l0 l id hf hb l.length 0 (by omega)
  rw [List.drop_zero] at this
  exact Ev.cg this (fun k => rfl)
theorem find_id : ∀ (l : List (S40)) (id : Int), (findP l id).2 = true → (findP l id).1 ∈ l ∧ (findP l id).1.f0 = id
  | [], _, h => by simp [findP] at h
  | p :: l, id, h => by
    unfold findP at h ⊢
    by_cases e : p.f0 = id
    · rw [if_pos e]; exact ⟨List.mem_cons_self, e⟩
    · rw [if_neg e] at h ⊢
      obtain ⟨h1, h2⟩ := find_id l id h
      exact ⟨List.mem_cons_of_mem _ h1, h2⟩
end Go.Proofs.Ytbfflokkdahjjaa.Pure
