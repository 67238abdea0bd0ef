/- WinchSweeps: Swept and Clear answer as the reference does. -/
import Derived.Test.YtipnnihjkipnoaaPAllx12
import Derived.Test.YtipnnihjkipnoaaPAllx13
import Derived.Test.YtipnnihjkipnoaaPAllx14
import Derived.Test.YtipnnihjkipnoaaUMore
namespace Go.Proofs.Ytipnnihjkipnoaa.Pure
set_option linter.unusedVariables false
set_option linter.unusedSimpArgs false
open Go.RowKit Go.Proofs.Ytipnnihjkipnoaa.PAll Go.Proofs.YtipnnihjkipnoaaW.PrintWords Go.Proofs.YtipnnihjkipnoaaW.PrintLast Go.Proofs.YtipnnihjkipnoaaW.PrintMore
theorem clearR_l0 (l : List S29) (t : Int) (ht : Tiny l) : ∀ (d i : Nat), i + d = l.length → Ev (fun k => skiarearef46_Clear.l0 k l t ((l.take i).filter (fun x => decide (x.f2 > t))) i) (l.filter (fun x => decide (x.f2 > t))) := by
  intro d
  induction d with
  | zero =>
    intro i hi
    rw [List.take_of_length_le (by omega)]
    exact Ev.step (f := fun _ => some (l.filter (fun x => decide (x.f2 > t)))) (fun k => by simp only [skiarearef46_Clear.l0]; rw [if_neg (by omega)]) (Ev.now _)
  | succ d ih =>
    intro i hi
    have hlt : i < l.length := by omega
    have hl := ht.1
    have hfl : ((l.take i).filter (fun x => decide (x.f2 > t))).length ≤ i := Nat.le_trans (List.length_filter_le _ _) (List.length_take_le _ _)
    have h1 := ih (i + 1) (by omega)
    rw [take_succ l i hlt, List.filter_append] at h1
    by_cases h : l[i].f2 > t
    · refine Ev.step (f := fun k => skiarearef46_Clear.l0 k l t ((l.take i).filter (fun x => decide (x.f2 > t)) ++ [l[i]]) ((i + 1 : Nat) : Int)) (fun k => by
        simp only [skiarearef46_Clear.l0]
        rw [if_pos (by omega), if_pos (by omega), rdS_nat _ _ hlt, if_pos h, if_pos (by omega), wr1 (by omega)]) ?_
      rwa [List.filter_cons_of_pos (by simpa using h), List.filter_nil] at h1
    · refine Ev.step (f := fun k => skiarearef46_Clear.l0 k l t ((l.take i).filter (fun x => decide (x.f2 > t))) ((i + 1 : Nat) : Int)) (fun k => by
        simp only [skiarearef46_Clear.l0]
        rw [if_pos (by omega), if_pos (by omega), rdS_nat _ _ hlt, if_neg h, wr1 (by omega)]) ?_
      rwa [List.filter_cons_of_neg (by simpa using h), List.filter_nil, List.append_nil] at h1
theorem clearR (l : List S29) (t : Int) (ht : Tiny l) : Ev (fun k => skiarearef46_Clear.f k l t) (l.filter (fun x => decide (x.f2 > t))) := by
  have := clearR_l0 l t ht l.length 0 (by omega)
  exact Ev.cg this (fun k => rfl)
/-- A run is swept at a time. -/
def sweptB (l : List S29) (t run : Int) : Bool := l.any (fun x => onB t x && decide (run ∈ x.f3))
def upto (l : List S29) (t : Int) (n : Nat) : List Int := ((List.range n).map (fun i : Nat => ((i + 1 : Nat) : Int))).filter (sweptB l t)
theorem upto_succ (l : List S29) (t : Int) (n : Nat) : upto l t (n + 1) = upto l t n ++ (if sweptB l t ((n + 1 : Nat) : Int) = true then [((n + 1 : Nat) : Int)] else []) := by
  unfold upto
  rw [List.range_succ, List.map_append, List.filter_append]
  congr 1
  cases h : sweptB l t ((n + 1 : Nat) : Int) with
  | true => simp only [List.map_cons, List.map_nil, List.filter_cons, h, if_true, List.filter_nil]
  | false => simp only [List.map_cons, List.map_nil, List.filter_cons, h, List.filter_nil, if_neg (show ¬ (false = true) by decide)]
theorem upto_len (l : List S29) (t : Int) (n : Nat) : (upto l t n).length ≤ n := Nat.le_trans (List.length_filter_le _ _) (by simp)
theorem sweptR_l1 (l : List S29) (t : Int) (ht : Tiny l) (n : Nat) (hn : n < 9999) (r : List Int) (hnext : Ev (fun k => skiarearef46_Swept.l0 k l t (upto l t (n + 1)) ((n + 2 : Nat) : Int)) r) : ∀ (d j : Nat), j + d = l.length → sweptB (l.take j) t ((n + 1 : Nat) : Int) = false →
    Ev (fun k => skiarearef46_Swept.l1 k l t (upto l t n) ((n + 1 : Nat) : Int) j) r := by
  have hul := upto_len l t n
  have hl := ht.1
  intro d
  induction d with
  | zero =>
    intro j hj hno
    rw [List.take_of_length_le (by omega)] at hno
    rw [upto_succ, hno, if_neg (by decide), List.append_nil] at hnext
    refine Ev.step (f := fun k => skiarearef46_Swept.l0 k l t (upto l t n) ((n + 2 : Nat) : Int)) (fun k => by simp only [skiarearef46_Swept.l1]; rw [if_neg (by omega), wr1 (by omega)]) hnext
  | succ d ih =>
    intro j hj hno
    have hlt : j < l.length := by omega
    have hstep : sweptB (l.take (j + 1)) t ((n + 1 : Nat) : Int) = (onB t l[j] && decide (((n + 1 : Nat) : Int) ∈ l[j].f3)) := by
      have hno' := hno
      unfold sweptB at hno' ⊢
      rw [take_succ l j hlt, List.any_append, hno', Bool.false_or, List.any_cons, List.any_nil, Bool.or_false]
    have go : (onB t l[j] && decide (((n + 1 : Nat) : Int) ∈ l[j].f3)) = false → Ev (fun k => skiarearef46_Swept.l1 k l t (upto l t n) ((n + 1 : Nat) : Int) ((j + 1 : Nat) : Int)) r := fun h => ih (j + 1) (by omega) (hstep.trans h)
    by_cases h1 : l[j].f1 ≤ t
    · by_cases h2 : t < l[j].f2
      · have hon : onB t l[j] = true := by unfold onB; rw [decide_eq_true h1, decide_eq_true h2]; rfl
        refine Ev.step (f := fun k => (skiarearef46_has.f k l[j].f3 ((n + 1 : Nat) : Int)).bind fun t' => (if t' = true then (skiarearef46_Swept.l0 k l t (upto l t n ++ [((n + 1 : Nat) : Int)]) ((n + 2 : Nat) : Int)) else (skiarearef46_Swept.l1 k l t (upto l t n) ((n + 1 : Nat) : Int) ((j + 1 : Nat) : Int)))) (fun k => by
          simp only [skiarearef46_Swept.l1]
          rw [if_pos (by omega), if_pos (by omega), rdS_nat _ _ hlt, if_pos h1, if_pos h2, if_pos (by omega), wr1 (by omega), wr1 (by omega)]) ?_
        refine Ev.bind (hasR _ _ (by have := ht.2 _ (List.getElem_mem hlt); omega)) ?_
        by_cases hm : ((n + 1 : Nat) : Int) ∈ l[j].f3
        · simp only [hm, decide_true, if_true]
          have hs : sweptB l t ((n + 1 : Nat) : Int) = true := List.any_eq_true.2 ⟨l[j], List.getElem_mem hlt, by rw [hon, decide_eq_true hm]; rfl⟩
          rwa [upto_succ, hs, if_pos rfl] at hnext
        · have hm' : decide (((n + 1 : Nat) : Int) ∈ l[j].f3) = false := decide_eq_false hm
          simp only [hm', if_neg (show ¬ (false = true) by decide)]
          exact go (by rw [hm', Bool.and_false])
      · refine Ev.step (f := fun k => skiarearef46_Swept.l1 k l t (upto l t n) ((n + 1 : Nat) : Int) ((j + 1 : Nat) : Int)) (fun k => by
          simp only [skiarearef46_Swept.l1]
          rw [if_pos (by omega), if_pos (by omega), rdS_nat _ _ hlt, if_pos h1, if_neg h2, wr1 (by omega)]) (go ?_)
        unfold onB; rw [decide_eq_false h2, Bool.and_false, Bool.false_and]
    · refine Ev.step (f := fun k => skiarearef46_Swept.l1 k l t (upto l t n) ((n + 1 : Nat) : Int) ((j + 1 : Nat) : Int)) (fun k => by
        simp only [skiarearef46_Swept.l1]
        rw [if_pos (by omega), if_pos (by omega), rdS_nat _ _ hlt, if_neg h1, wr1 (by omega)]) (go ?_)
      unfold onB; rw [decide_eq_false h1, Bool.false_and, Bool.false_and]
theorem sweptR_l0 (l : List S29) (t : Int) (ht : Tiny l) : ∀ (d n : Nat), n + d = 9999 → Ev (fun k => skiarearef46_Swept.l0 k l t (upto l t n) ((n + 1 : Nat) : Int)) (upto l t 9999) := by
  intro d
  induction d with
  | zero =>
    intro n hn
    obtain rfl : n = 9999 := by omega
    exact Ev.step (f := fun _ => some (upto l t 9999)) (fun k => by simp only [skiarearef46_Swept.l0]; rw [if_neg (by omega)]) (Ev.now _)
  | succ d ih =>
    intro n hn
    refine Ev.step (f := fun k => skiarearef46_Swept.l1 k l t (upto l t n) ((n + 1 : Nat) : Int) ((0 : Nat) : Int)) (fun k => by simp only [skiarearef46_Swept.l0]; rw [if_pos (by omega)]; rfl) ?_
    exact sweptR_l1 l t ht n (by omega) _ (ih (n + 1) (by omega)) l.length 0 (by omega) rfl
theorem inc_upto (l : List S29) (t : Int) (n : Nat) : (upto l t n).Pairwise (· < ·) := by
  refine List.Pairwise.filter _ ?_
  rw [List.pairwise_map]
  exact List.pairwise_lt_range.imp (fun h => by omega)
theorem upto_all {l : List S29} (h : Right l) (t : Int) : upto l t 9999 = Help.sset (runsOf (l.filter (onB t))) := by
  refine Help.inc_ext _ _ (inc_upto l t _) (Help.inc_sset _) (fun z => ?_)
  rw [Help.mem_sset]
  unfold upto runsOf sweptB
  simp only [List.mem_filter, List.mem_map, List.mem_range, List.mem_flatMap, List.any_eq_true, Bool.and_eq_true, decide_eq_true_eq]
  constructor
  · rintro ⟨_, x, hx, hon, hz⟩
    exact ⟨x, ⟨hx, hon⟩, hz⟩
  · rintro ⟨x, ⟨hx, hon⟩, hz⟩
    have hb := (right_runs h hx).2.1 z hz
    exact ⟨⟨(z - 1).toNat, by omega, by omega⟩, x, hx, hon, hz⟩
theorem sset_len_le (l : List Int) : (Help.sset l).length ≤ l.length := by
  induction l with
  | nil => simp [Help.sset]
  | cons x l ih =>
    have h : ∀ y (m : List Int), (Help.insU y m).length ≤ m.length + 1 := by
      intro y m
      induction m with
      | nil => simp [Help.insU]
      | cons z m ihm =>
        unfold Help.insU
        split
        · simp
        · split
          · simp
          · simp only [List.length_cons]; omega
    show (Help.insU x (Help.sset l)).length ≤ _
    have := h x (Help.sset l)
    simp only [List.length_cons]; omega
theorem WinchSweeps (l : List S29) (t : Int) : ∃ k, skiarealaw46_WinchSweeps.f k l t = some true := by
  refine Ev.rounds (Ev.cg (f := fun k => (skiarealaw46_alive.f k).bind fun t' => (if t' = true then ((skiarealaw46_right.f k l).bind fun t' => (if t' = true then ((winch_Swept.f l t).bind fun a => ((skiarearef46_Swept.f k l t).bind fun b => ((skiarearef46_SameInts.f k a b).bind fun t' => (if t' = true then ((winch_Clear.f k l t).bind fun c => ((skiarearef46_Clear.f k l t).bind fun d => ((skiarearef46_Same.f k c d).bind fun t' => (some t')))) else (none))))) else (some true))) else none)) ?_ (fun k => rfl))
  refine Ev.bind alive ?_
  simp only [if_true]
  refine Ev.bind (right l) ?_
  cases h : okB l with
  | false => exact Ev.now _
  | true =>
    simp only [if_true]
    have ht := few_tiny (ok_parts h).1
    have hr := (rightC_zero l).1 (ok_parts h).2
    rw [swept_eq hr ht]
    have hsw : Ev (fun k => skiarearef46_Swept.f k l t) (Help.sset (runsOf (l.filter (onB t)))) := by
      rw [← upto_all hr]
      exact Ev.cg (sweptR_l0 l t ht 9999 0 (by omega)) (fun k => rfl)
    refine Ev.bind (Ev.now _) (Ev.bind hsw (Ev.bind (sameInts _ ?_) ?_))
    · rw [← upto_all hr]
      have := upto_len l t 9999
      omega
    · simp only [if_true]
      refine Ev.bind (clear l t ht) (Ev.bind (clearR l t ht) (Ev.bind (f := fun _ t' => some t') (same _ (fun x hx => tiny_small ht x (List.mem_filter.1 hx).1) ?_) (Ev.now _)))
      have := List.length_filter_le (fun x : S29 => decide (x.f2 > t)) l
      have := ht.1
      omega
end Go.Proofs.Ytipnnihjkipnoaa.Pure
