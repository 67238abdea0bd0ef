/- WinchApart: no two ropes sweep a run at the same time, and no groomer has two ropes then, whatever is laid. -/
import Derived.Test.YtipnnihjkipnoaaPAllx18
import Derived.Test.YtipnnihjkipnoaaUOn
namespace Go.Proofs.Ytipnnihjkipnoaa.Pure
set_option linter.unusedVariables false
set_option linter.unusedSimpArgs false
open Go.RowKit Go.Proofs.Ytipnnihjkipnoaa.PAll Go.Proofs.YtipnnihjkipnoaaW.PrintWords Go.Proofs.YtipnnihjkipnoaaW.PrintLast Go.Proofs.YtipnnihjkipnoaaW.PrintMore
theorem len_insU (x : Int) : ∀ l : List Int, x ∉ l → (Help.insU x l).length = l.length + 1
  | [], _ => rfl
  | y :: ys, h => by
    have hne : ¬ x = y := fun e => h (by simp [e])
    unfold Help.insU
    split
    · rfl
    · rw [List.length_cons, len_insU x ys (fun z => h (by simp [z]))]; rfl
theorem len_sset : ∀ l : List Int, l.Nodup → (Help.sset l).length = l.length
  | [], _ => rfl
  | x :: l, h => by
    obtain ⟨h1, h2⟩ := List.nodup_cons.1 h
    show (Help.insU x (Help.sset l)).length = _
    rw [len_insU x _ (fun z => h1 ((Help.mem_sset x l).1 z)), len_sset l h2]; rfl
def apart (a b : S29) : Prop := a.f0 ≠ b.f0 ∧ ∀ n ∈ a.f3, n ∉ b.f3
theorem on_apart {l : List S29} (h : Right l) (t : Int) : (l.filter (onB t)).Pairwise apart := by
  have hp : (l.filter (onB t)).Pairwise (fun a b => clashB a b = false) := h.2.2.filter _
  refine hp.imp_of_mem (fun {a b} ha hb hc => ?_)
  obtain ⟨_, ha2⟩ := List.mem_filter.1 ha
  obtain ⟨_, hb2⟩ := List.mem_filter.1 hb
  simp only [onB, Bool.and_eq_true, decide_eq_true_eq] at ha2 hb2
  unfold clashB at hc
  rw [if_neg (by omega)] at hc
  simp only [Bool.or_eq_false_iff, beq_eq_false_iff_ne, List.any_eq_false, decide_eq_true_eq] at hc
  exact ⟨hc.2, hc.1⟩
theorem runs_nodup {l : List S29} (hs : ∀ x ∈ l, x.f3.Pairwise (· < ·)) (h : l.Pairwise apart) : (runsOf l).Nodup := by
  induction l with
  | nil => simp [runsOf]
  | cons x l ih =>
    obtain ⟨h1, h2⟩ := List.pairwise_cons.1 h
    have h3 := ih (fun y hy => hs y (by simp [hy])) h2
    show (x.f3 ++ runsOf l).Nodup
    refine List.nodup_append.2 ⟨(hs x (by simp)).imp (fun h => by omega), h3, fun a ha b hb e => ?_⟩
    subst e
    simp only [runsOf, List.mem_flatMap] at hb
    obtain ⟨y, hy, hb⟩ := hb
    exact (h1 y hy).2 a ha hb
theorem on_take (l : List S29) (t : Int) (i : Nat) (h : i < l.length) : (l.take (i + 1)).filter (onB t) = (l.take i).filter (onB t) ++ (if onB t l[i] = true then [l[i]] else []) := by
  rw [take_succ l i h, List.filter_append]
  congr 1
  cases hh : onB t l[i] with
  | true => rw [List.filter_cons, if_pos hh, List.filter_nil, if_pos rfl]
  | false => rw [List.filter_cons, if_neg (by simp [hh]), List.filter_nil, if_neg (by decide)]
theorem runsOf_append (a b : List S29) : runsOf (a ++ b) = runsOf a ++ runsOf b := by simp [runsOf]
/-- The last loop: what is swept, checked. -/
theorem last_loop (runs s : List Int) (hm : ∀ z ∈ s, z ∈ runs) (hi : s.Pairwise (· < ·)) (hl : s.length = runs.length) (hb : runs.length < 4611686018427387904) : ∀ (d i : Nat), i + d = s.length → Ev (fun k => skiarealaw46_WinchApart.l3 k runs s i) true := by
  intro d
  induction d with
  | zero =>
    intro i hd
    refine Ev.step (f := fun _ => some ((s.length : Int) == (runs.length : Int))) (fun k => by simp only [skiarealaw46_WinchApart.l3]; rw [if_neg (by omega)]) (ev_some (by rw [hl]; simp))
  | succ d ih =>
    intro i hd
    have hlt : i < s.length := by omega
    refine Ev.step (f := fun k => (skiarealaw46_has.f k runs s[i]).bind fun t378 => (if t378 = true then (if (i : Int) > 0 then (if 0 ≤ (wrap64 ((i : Int) - 1)) then (if (wrap64 ((i : Int) - 1)) < (s.length : Int) then (if s[i] ≤ (rd s (wrap64 ((i : Int) - 1))) then (none) else (skiarealaw46_WinchApart.l3 k runs s (wrap64 ((i : Int) + 1)))) else (none)) else (none)) else (skiarealaw46_WinchApart.l3 k runs s (wrap64 ((i : Int) + 1)))) else (none))) (fun k => by
      simp only [skiarealaw46_WinchApart.l3]
      rw [if_pos (by omega), if_pos (by omega), rd_nat _ _ hlt]) ?_
    refine Ev.bind (hasL runs _ hb) ?_
    rw [decide_eq_true (hm _ (List.getElem_mem hlt)), wr1 (by omega)]
    simp only [if_true]
    have h1 := ih (i + 1) (by omega)
    by_cases h0 : i = 0
    · subst h0
      exact Ev.cg h1 (fun k => by rw [if_neg (by omega)])
    · have hp := List.pairwise_iff_getElem.1 hi (i - 1) i (by omega) hlt (by omega)
      exact Ev.cg h1 (fun k => by rw [if_pos (by omega), wrm (by omega) (by omega), if_pos (by omega), if_pos (by omega), rd_nat _ _ (show i - 1 < s.length by omega), if_neg (by omega)])
/-- The loops over what sweeps at the time t. -/
theorem loops {l : List S29} (hr : Right l) (ht : Tiny l) (t : Int) : ∀ (d i : Nat), i + d = l.length →
    Ev (fun k => skiarealaw46_WinchApart.l1 k l t (runsOf ((l.take i).filter (onB t))) (((l.take i).filter (onB t)).map (fun x => x.f0)) i) true := by
  have hall := on_apart hr t
  have hinc : ∀ x ∈ l, x.f3.Pairwise (· < ·) := fun x hx => (right_runs hr hx).2.2
  have hlen := ht.1
  have hsz : ∀ i, (runsOf ((l.take i).filter (onB t))).length ≤ i * 1000 := by
    intro i
    have h2 : (runsOf ((l.take i).filter (onB t))).length ≤ ((l.take i).filter (onB t)).length * 1000 := runs_len _ (fun x hx => ht.2 x (List.mem_of_mem_take (List.mem_filter.1 hx).1))
    have h3 := List.length_filter_le (onB t) (l.take i)
    have h4 := List.length_take_le i l
    exact Nat.le_trans h2 (Nat.mul_le_mul_right _ (Nat.le_trans h3 h4))
  intro d
  induction d with
  | zero =>
    intro i hi
    have htl : l.take i = l := List.take_of_length_le (by omega)
    have hsi := hsz i
    rw [htl] at hsi ⊢
    refine Ev.step (f := fun k => (winch_Swept.f l t).bind fun s => (skiarealaw46_WinchApart.l3 k (runsOf (l.filter (onB t))) s 0)) (fun k => by simp only [skiarealaw46_WinchApart.l1]; rw [if_neg (by omega)]) ?_
    rw [swept_eq hr ht]
    have hnd := runs_nodup (l := l.filter (onB t)) (fun x hx => hinc x (List.mem_filter.1 hx).1) hall
    refine Ev.bind (Ev.now _) ?_
    exact last_loop (runsOf (l.filter (onB t))) (Help.sset (runsOf (l.filter (onB t)))) (fun z hz => (Help.mem_sset z _).1 hz) (Help.inc_sset _) (len_sset _ hnd) (by omega) (Help.sset (runsOf (l.filter (onB t)))).length 0 (by omega)
  | succ d ih =>
    intro i hi
    have hlt : i < l.length := by omega
    have hsi := hsz i
    have h1 := ih (i + 1) (by omega)
    rw [on_take l t i hlt] at h1
    by_cases hon : onB t l[i] = true
    · rw [if_pos hon] at h1
      have hon' : l[i].f1 ≤ t ∧ t < l[i].f2 := by simpa [onB] using hon
      -- what sweeps with it is apart from it
      have hpre : ∀ y ∈ (l.take i).filter (onB t), apart y l[i] := by
        have h2 : ((l.take (i + 1)).filter (onB t)).Pairwise apart := hall.sublist ((List.take_sublist _ _).filter _)
        rw [on_take l t i hlt, if_pos hon] at h2
        intro y hy
        exact (List.pairwise_append.1 h2).2.2 y hy l[i] (by simp)
      have hg : l[i].f0 ∉ ((l.take i).filter (onB t)).map (fun x => x.f0) := by
        intro hm
        obtain ⟨y, hy, e⟩ := List.mem_map.1 hm
        exact (hpre y hy).1 e
      have hgl : (((l.take i).filter (onB t)).map (fun x => x.f0)).length ≤ i := by
        rw [List.length_map]
        exact Nat.le_trans (List.length_filter_le _ _) (List.length_take_le _ _)
      -- the runs of this rope, one after the other
      have inner : ∀ (e j : Nat), j + e = l[i].f3.length → Ev (fun k => skiarealaw46_WinchApart.l2 k l t (runsOf ((l.take i).filter (onB t)) ++ l[i].f3.take j) (((l.take i).filter (onB t)).map (fun x => x.f0) ++ [l[i].f0]) i j) true := by
        have hfl := ht.2 _ (List.getElem_mem hlt)
        intro e
        induction e with
        | zero =>
          intro j hj
          rw [show l[i].f3.take j = l[i].f3 from List.take_of_length_le (by omega)]
          refine Ev.step (f := fun k => skiarealaw46_WinchApart.l1 k l t (runsOf ((l.take i).filter (onB t)) ++ l[i].f3) (((l.take i).filter (onB t)).map (fun x => x.f0) ++ [l[i].f0]) ((i + 1 : Nat) : Int)) (fun k => by
            simp only [skiarealaw46_WinchApart.l2]
            rw [if_pos (by omega), if_pos (by omega), rdS_nat _ _ hlt, if_neg (by omega), wr1 (by omega)]) ?_
          rw [runsOf_append, List.map_append] at h1
          simpa [runsOf] using h1
        | succ e ihe =>
          intro j hj
          have hjl : j < l[i].f3.length := by omega
          have hn : l[i].f3[j] ∉ runsOf ((l.take i).filter (onB t)) ++ l[i].f3.take j := by
            intro hm
            rcases List.mem_append.1 hm with hm | hm
            · simp only [runsOf, List.mem_flatMap] at hm
              obtain ⟨y, hy, hm⟩ := hm
              exact (hpre y hy).2 _ hm (List.getElem_mem hjl)
            · obtain ⟨q, hq, e⟩ := List.getElem_of_mem hm
              have hq' : q < j := by simp at hq; omega
              rw [List.getElem_take] at e
              have := List.pairwise_iff_getElem.1 (hinc _ (List.getElem_mem hlt)) q j (by omega) hjl hq'
              omega
          have hb2 : (runsOf ((l.take i).filter (onB t)) ++ l[i].f3.take j).length < 4611686018427387904 := by
            rw [List.length_append]
            have := List.length_take_le j l[i].f3
            omega
          refine Ev.step (f := fun k => (skiarealaw46_has.f k (runsOf ((l.take i).filter (onB t)) ++ l[i].f3.take j) l[i].f3[j]).bind fun t368 => (if t368 = true then (none) else (if (runsOf ((l.take i).filter (onB t)) ++ l[i].f3.take j).length < 17592186044416 then (skiarealaw46_WinchApart.l2 k l t ((runsOf ((l.take i).filter (onB t)) ++ l[i].f3.take j) ++ [l[i].f3[j]]) (((l.take i).filter (onB t)).map (fun x => x.f0) ++ [l[i].f0]) i ((j + 1 : Nat) : Int)) else (none)))) (fun k => by
            simp only [skiarealaw46_WinchApart.l2]
            rw [if_pos (by omega), if_pos (by omega), rdS_nat _ _ hlt, if_pos (by omega), if_pos (by omega), rd_nat _ _ hjl, wr1 (by omega)]) ?_
          refine Ev.bind (hasL _ _ hb2) ?_
          rw [decide_eq_false hn]
          simp only [if_neg (show ¬ (false = true) by decide)]
          have hlim : (runsOf ((l.take i).filter (onB t)) ++ l[i].f3.take j).length < 17592186044416 := by
            rw [List.length_append]
            have := List.length_take_le j l[i].f3
            omega
          simp only [if_pos hlim]
          have h5 := ihe (j + 1) (by omega)
          rwa [List.take_succ_eq_append_getElem hjl, ← List.append_assoc] at h5
      refine Ev.step (f := fun k => (skiarealaw46_has.f k (((l.take i).filter (onB t)).map (fun x => x.f0)) l[i].f0).bind fun t360 => (if t360 = true then (none) else (if (((l.take i).filter (onB t)).map (fun x => x.f0)).length < 17592186044416 then (skiarealaw46_WinchApart.l2 k l t (runsOf ((l.take i).filter (onB t))) (((l.take i).filter (onB t)).map (fun x => x.f0) ++ [l[i].f0]) i ((0 : Nat) : Int)) else (none)))) (fun k => by
        simp only [skiarealaw46_WinchApart.l1]
        rw [if_pos (by omega), if_pos (by omega), rdS_nat _ _ hlt, if_neg (by omega), if_neg (by omega)]; rfl) ?_
      refine Ev.bind (hasL _ _ (by omega)) ?_
      rw [decide_eq_false hg]
      simp only [if_neg (show ¬ (false = true) by decide)]
      simp only [if_pos (show (((l.take i).filter (onB t)).map (fun x => x.f0)).length < 17592186044416 by omega)]
      have h6 := inner l[i].f3.length 0 (by omega)
      rwa [List.take_zero, List.append_nil] at h6
    · rw [if_neg hon, List.append_nil] at h1
      have hon' : ¬ (l[i].f1 ≤ t ∧ t < l[i].f2) := by simpa [onB] using hon
      refine Ev.step (f := fun k => skiarealaw46_WinchApart.l1 k l t (runsOf ((l.take i).filter (onB t))) (((l.take i).filter (onB t)).map (fun x => x.f0)) ((i + 1 : Nat) : Int)) (fun k => by
        simp only [skiarealaw46_WinchApart.l1]
        rw [if_pos (by omega), if_pos (by omega), rdS_nat _ _ hlt]
        by_cases h2 : l[i].f1 > t
        · rw [if_pos h2, wr1 (by omega)]
        · rw [if_neg h2, if_pos (by omega), wr1 (by omega)]) h1
theorem lays (more : List S29) (t : Int) (hm : more.length ≤ 30) (hm2 : ∀ x ∈ more, x.f3.length ≤ 1000) : ∀ (d i : Nat), i + d = more.length → ∀ l : List S29, Right l → (∀ x ∈ l, x.f3.length ≤ 1000) → Ev (fun k => skiarealaw46_WinchApart.l0 k l more t i) true := by
  intro d
  induction d with
  | zero =>
    intro i hi l hr hs
    have ht : Tiny l := ⟨by have := hr.1; omega, hs⟩
    refine Ev.step (f := fun k => (winch_Right.f k l).bind fun t356 => (if t356 = 0 then (skiarealaw46_WinchApart.l1 k l t ([] : List Int) ([] : List Int) 0) else (none))) (fun k => by simp only [skiarealaw46_WinchApart.l0]; rw [if_neg (by omega)]) ?_
    refine Ev.bind (rightW l (tiny_small ht)) ?_
    rw [(rightC_zero l).2 hr]
    simp only [if_true]
    exact loops hr ht t l.length 0 (by omega)
  | succ d ih =>
    intro i hi l hr hs
    have hlt : i < more.length := by omega
    have ht : Tiny l := ⟨by have := hr.1; omega, hs⟩
    have hw := hm2 _ (List.getElem_mem hlt)
    refine Ev.step (f := fun k => (winch_Lay.f k l more[i].f0 more[i].f1 more[i].f2 more[i].f3).bind fun b => (if b.2 = 0 then (if (b.1.length : Int) = (wrap64 ((l.length : Int) + 1)) then (skiarealaw46_WinchApart.l0 k b.1 more t ((i + 1 : Nat) : Int)) else (none)) else (if (b.1.length : Int) = 0 then (skiarealaw46_WinchApart.l0 k l more t ((i + 1 : Nat) : Int)) else (none)))) (fun k => by
      simp only [skiarealaw46_WinchApart.l0]
      rw [if_pos (by omega), if_pos (by omega), rdS_nat _ _ hlt, wr1 (i := i) (by omega)]) ?_
    refine Ev.bind (lay l more[i] ht hw) ?_
    unfold layS
    by_cases h : rightC (l ++ [more[i]]) = 0
    · simp only [if_pos h, if_true]
      have e : ((l ++ [more[i]]).length : Int) = wrap64 ((l.length : Int) + 1) := by
        rw [wr1 (by have := hr.1; omega)]; simp
      simp only [if_pos e]
      refine ih (i + 1) (by omega) _ ((rightC_zero _).1 h) (fun x hx => ?_)
      rcases List.mem_append.1 hx with hx | hx
      · exact hs x hx
      · obtain rfl := List.mem_singleton.1 hx; exact hw
    · simp only [if_neg h]
      have e : (([] : List S29).length : Int) = 0 := rfl
      simp only [if_pos e]
      exact ih (i + 1) (by omega) l hr hs
theorem WinchApart (l more : List S29) (t : Int) : ∃ k, skiarealaw46_WinchApart.f k l more t = some true := by
  refine Ev.rounds (Ev.cg (f := fun k => (skiarealaw46_alive.f k).bind fun t348 => (if t348 = true then ((skiarealaw46_right.f k l).bind fun t349 => (if t349 = true then ((skiarealaw46_few.f k more).bind fun t350 => (if t350 = true then (if (more.length : Int) > 30 then (some true) else (skiarealaw46_WinchApart.l0 k l more t 0)) else (some true))) else (some true))) else (none))) ?_ (fun k => rfl))
  refine Ev.bind alive ?_
  simp only [if_true]
  refine Ev.bind (right l) ?_
  cases h : okB l with
  | false => exact Ev.now _
  | true =>
    simp only [if_true]
    refine Ev.bind (few more) ?_
    cases h2 : fewB more with
    | false => exact Ev.now _
    | true =>
      simp only [if_true]
      have ht := few_tiny (ok_parts h).1
      have hr := (rightC_zero l).1 (ok_parts h).2
      by_cases c : (more.length : Int) > 30
      · simp only [if_pos c]; exact Ev.now _
      · simp only [if_neg c]
        exact lays more t (by omega) (few_tiny h2).2 more.length 0 (by omega) l hr ht.2
end Go.Proofs.Ytipnnihjkipnoaa.Pure
