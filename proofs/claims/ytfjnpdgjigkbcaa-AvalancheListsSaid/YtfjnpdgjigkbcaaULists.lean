/- Level, Unstable, Zones and Lifts of the reference, in plain lists. -/
import Derived.Test.YtfjnpdgjigkbcaaPAllx22
import Derived.Test.YtfjnpdgjigkbcaaPAllx24
import Derived.Test.YtfjnpdgjigkbcaaPAllx26
import Derived.Test.YtfjnpdgjigkbcaaPAllx27
import Derived.Test.YtfjnpdgjigkbcaaPAllx29
import Derived.Test.YtfjnpdgjigkbcaaUSame
import Derived.Test.YtfjnpdgjigkbcaaGZones
namespace Go.Proofs.Ytfjnpdgjigkbcaa.Pure
open Go.RowKit Go.Proofs.Ytfjnpdgjigkbcaa.PAll Go.Proofs.YtfjnpdgjigkbcaaW.PrintWords Go.Proofs.YtfjnpdgjigkbcaaW.PrintLast Go.Proofs.YtfjnpdgjigkbcaaW.PrintMore
set_option linter.unusedVariables false
set_option linter.unusedSimpArgs false
theorem max_snoc (xs : List Int) (y : Int) (h : 0 < xs.length) : Go.Lib.maxOf (xs ++ [y]) = if y > Go.Lib.maxOf xs then y else Go.Lib.maxOf xs := by
  unfold Go.Lib.maxOf
  rw [List.foldl_append]
  have e : (xs ++ [y]).headD 0 = xs.headD 0 := by
    cases xs with
    | nil => simp at h
    | cons a r => rfl
  rw [e]
  simp only [List.foldl_cons, List.foldl_nil]
  generalize xs.foldl max (xs.headD 0) = q
  rw [Int.max_def]
  by_cases c : y > q
  · rw [if_pos c, if_pos (by omega)]
  · rw [if_neg c]
    by_cases c2 : q ≤ y
    · rw [if_pos c2]; omega
    · rw [if_neg c2]
theorem max_one (y : Int) : Go.Lib.maxOf [y] = y := by simp [Go.Lib.maxOf]
def mostAt (zs lv : List Int) (i : Nat) : Int := if i = 0 then 0 else Go.Lib.maxOf ((zs.take i).map (lev1 lv))
theorem levelR_l0 (x : S34) (lv : List Int) (hx : Fine x) (hl : lv.length ≤ 100000) : ∀ (d i : Nat), i + d = x.f1.length →
    Ev (fun k => skiarearef50_Level.l0 k lv (mostAt x.f1 lv i) i x.f0 x.f1 x.f2 x.f3 x.f4 x.f5) (levB x.f1 lv) := by
  intro d
  obtain ⟨h0, hb, _, hz⟩ := hx
  induction d with
  | zero =>
    intro i hi
    refine Ev.step (f := fun _ => some (mostAt x.f1 lv i)) (fun k => by simp only [skiarearef50_Level.l0]; rw [if_neg (by omega)]) (ev_some ?_)
    unfold mostAt levB
    rw [if_neg (by omega), List.take_of_length_le (by omega)]
  | succ d ih =>
    intro i hi
    have hlt : i < x.f1.length := by omega
    have h1 := hz _ (List.getElem_mem hlt)
    have hm : mostAt x.f1 lv (i + 1) = if i = 0 then lev1 lv x.f1[i] else if lev1 lv x.f1[i] > mostAt x.f1 lv i then lev1 lv x.f1[i] else mostAt x.f1 lv i := by
      unfold mostAt
      rw [if_neg (by omega), List.take_succ_eq_append_getElem hlt, List.map_append]
      by_cases c : i = 0
      · subst c
        rw [if_pos rfl, List.take_zero]
        exact max_one _
      · rw [if_neg c, if_neg c]
        exact max_snoc _ _ (by rw [List.length_map, List.length_take]; omega)
    refine Ev.step (f := fun k => skiarearef50_Level.l0 k lv (mostAt x.f1 lv (i + 1)) ((i + 1 : Nat) : Int) x.f0 x.f1 x.f2 x.f3 x.f4 x.f5) (fun k => ?_) (ih (i + 1) (by omega))
    simp only [skiarearef50_Level.l0]
    rw [if_pos (by omega), if_pos (by omega), rd_nat _ _ hlt, wr1 (by omega), hm]
    by_cases c : x.f1[i] ≤ (lv.length : Int)
    · rw [if_pos c, wr_small (x := x.f1[i] - 1) (by omega) (by omega), if_pos (by omega), if_pos (by omega), show lev1 lv x.f1[i] = rd lv (x.f1[i] - 1) from if_pos c]
      by_cases c2 : i = 0
      · rw [if_pos (by omega), if_pos c2]
      · rw [if_neg (by omega), if_neg c2]
        split <;> rfl
    · rw [if_neg c, show lev1 lv x.f1[i] = 0 from if_neg c]
      by_cases c2 : i = 0
      · rw [if_pos (by omega), if_pos c2]
      · rw [if_neg (by omega), if_neg c2]
        split <;> rfl
theorem levelR (x : S34) (lv : List Int) (hx : Fine x) (hl : lv.length ≤ 100000) : Ev (fun k => skiarearef50_Level.f k x.f0 x.f1 x.f2 x.f3 x.f4 x.f5 lv) (levB x.f1 lv) :=
  Ev.cg (levelR_l0 x lv hx hl x.f1.length 0 (by omega)) (fun k => rfl)
theorem unstableR (x : S34) (lv : List Int) (hx : Fine x) (hl : lv.length ≤ 100000) (hn : 4 ≤ x.f3 ∧ x.f3 ≤ 100000) : Ev (fun k => skiarearef50_Unstable.f k x.f0 x.f1 x.f2 x.f3 x.f4 x.f5 lv) (unstB lv x) := by
  refine Ev.cg (f := fun k => (skiarearef50_Level.f k x.f0 x.f1 x.f2 x.f3 x.f4 x.f5 lv).bind fun t291 => (if t291 > 4 then (some true) else (if t291 = 4 then (some (decide (x.f4 ≥ (wrap64 (Int.tdiv x.f3 4))))) else (if t291 = 3 then (some (decide (x.f4 ≥ (wrap64 (Int.tdiv x.f3 2))))) else (some (decide (x.f4 ≥ x.f3))))))) ?_ (fun k => rfl)
  refine Ev.bind (levelR x lv hx hl) (ev_some' ?_)
  unfold unstB
  generalize levB x.f1 lv = n
  have e2 : wrap64 (Int.tdiv x.f3 2) ≤ x.f3 := by rw [Int.tdiv_eq_ediv_of_nonneg (by omega), wr_small (by omega) (by omega)]; omega
  have e4 : wrap64 (Int.tdiv x.f3 4) ≤ x.f3 := by rw [Int.tdiv_eq_ediv_of_nonneg (by omega), wr_small (by omega) (by omega)]; omega
  by_cases h1 : n > 4
  · rw [if_pos h1]
    by_cases h : x.f4 ≥ x.f3
    · rw [if_pos h]
    · rw [if_neg h, if_neg (by omega), if_neg (by omega), decide_eq_true h1]
  · rw [if_neg h1]
    by_cases h2 : n = 4
    · rw [if_pos h2]
      by_cases h : x.f4 ≥ x.f3
      · rw [if_pos h, decide_eq_true (by omega)]
      · rw [if_neg h, if_neg (by omega), if_pos h2]
    · rw [if_neg h2]
      by_cases h3 : n = 3
      · rw [if_pos h3]
        by_cases h : x.f4 ≥ x.f3
        · rw [if_pos h, decide_eq_true (by omega)]
        · rw [if_neg h, if_pos h3]
      · rw [if_neg h3]
        by_cases h : x.f4 ≥ x.f3
        · rw [if_pos h, decide_eq_true h]
        · rw [if_neg h, if_neg h3, if_neg h2, decide_eq_false h, decide_eq_false h1]
/-! ### join -/
/-- How many elements, from the first on, are below x. -/
def posOf (x : Int) : List Int → Nat
  | [] => 0
  | y :: ys => if y < x then posOf x ys + 1 else 0
theorem pos_le (x : Int) : ∀ l : List Int, posOf x l ≤ l.length
  | [] => Nat.le_refl _
  | y :: ys => by
    unfold posOf
    have := pos_le x ys
    split <;> simp; omega
theorem pos_below (x : Int) : ∀ (l : List Int) (j : Nat) (h : j < posOf x l), (l[j]'(Nat.lt_of_lt_of_le h (pos_le x l))) < x
  | [], j, h => absurd h (Nat.not_lt_zero _)
  | y :: ys, j, h => by
    unfold posOf at h
    split at h
    · cases j with
      | zero => assumption
      | succ j => exact pos_below x ys j (by omega)
    · exact absurd h (Nat.not_lt_zero _)
theorem pos_at (x : Int) : ∀ (l : List Int) (h : posOf x l < l.length), ¬ l[posOf x l] < x
  | [], h => absurd h (Nat.not_lt_zero _)
  | y :: ys, h => by
    by_cases c : y < x
    · have e : posOf x (y :: ys) = posOf x ys + 1 := if_pos c
      have h2 : posOf x ys < ys.length := by rw [e] at h; simpa using h
      have := pos_at x ys h2
      simpa [e] using this
    · have e : posOf x (y :: ys) = 0 := if_neg c
      simpa [e] using c
theorem ins_pos (x : Int) : ∀ l : List Int, Help.insU x l = if l[posOf x l]? = some x then l else l.take (posOf x l) ++ x :: l.drop (posOf x l)
  | [] => rfl
  | y :: ys => by
    by_cases c : y < x
    · have e : posOf x (y :: ys) = posOf x ys + 1 := if_pos c
      have ih := ins_pos x ys
      unfold Help.insU
      rw [if_neg (by omega), if_neg (by omega), ih, e, List.getElem?_cons_succ]
      split
      · rfl
      · rfl
    · have e : posOf x (y :: ys) = 0 := if_neg c
      unfold Help.insU
      rw [e]
      by_cases c2 : x < y
      · rw [if_pos c2, if_neg (by simp; omega)]; rfl
      · rw [if_neg c2, if_pos (by omega), if_pos (by simp; omega)]
/-- The list while x goes down to its place: x is at k. -/
def going (out : List Int) (x : Int) (k : Nat) : List Int := out.take k ++ x :: out.drop k
theorem going_len (out : List Int) (x : Int) (k : Nat) : (going out x k).length = out.length + 1 := by
  unfold going
  simp only [List.length_append, List.length_cons, List.length_take, List.length_drop]
  omega
theorem going_at (out : List Int) (x : Int) (k : Nat) (h : k ≤ out.length) : rd (going out x k) (k : Int) = x := by
  unfold going rd
  rw [Int.toNat_natCast, List.getD_eq_getElem?_getD, List.getElem?_append_right (by simp; omega)]
  simp [show k - min k out.length = 0 by omega]
theorem going_before (out : List Int) (x : Int) (k : Nat) (h : k + 1 ≤ out.length) : rd (going out x (k + 1)) (k : Int) = out[k] := by
  unfold going rd
  rw [Int.toNat_natCast, List.getD_eq_getElem?_getD, List.getElem?_append_left (by simp; omega)]
  simp [show k < out.length by omega]
theorem going_step (out : List Int) (x : Int) (k : Nat) (h : k + 1 ≤ out.length) : ((going out x (k + 1)).set (k + 1) out[k]).set k x = going out x k := by
  unfold going
  have h0 : k + 1 - (out.take (k + 1)).length = 0 := by simp; omega
  rw [List.set_append_right _ _ (by simp; omega), h0, List.set_cons_zero, List.take_succ_eq_append_getElem (by omega), List.append_assoc]
  have h1 : k - (out.take k).length = 0 := by simp; omega
  rw [List.set_append_right _ _ (by simp; omega), h1]
  simp only [List.singleton_append, List.set_cons_zero]
  rw [List.drop_eq_getElem_cons (show k < out.length by omega)]
theorem join_l2 (l out : List Int) (i at_ : Nat) (x : Int) (hb : out.length < 4000000) (hi : i < 4000000) (r : List Int) (hnext : Ev (fun k => skiarearef50_join.l0 k (going out x at_) l ((i + 1 : Nat) : Int)) r) : ∀ (d k0 : Nat), at_ + d = k0 → k0 ≤ out.length →
    Ev (fun k => skiarearef50_join.l2 k (going out x k0) l i at_ k0) r := by
  intro d
  induction d with
  | zero =>
    intro k0 hk hle
    obtain rfl : at_ = k0 := hk
    exact Ev.step (f := fun k => skiarearef50_join.l0 k (going out x at_) l ((i + 1 : Nat) : Int)) (fun k => by simp only [skiarearef50_join.l2]; rw [if_neg (by omega), wr1 (by omega)]) hnext
  | succ d ih =>
    intro k0 hk hle
    obtain ⟨q, rfl⟩ : ∃ q, k0 = q + 1 := ⟨k0 - 1, by omega⟩
    refine Ev.step (f := fun k => skiarearef50_join.l2 k (going out x q) l i at_ q) (fun k => ?_) (ih q (by omega) (by omega))
    have hl := going_len out x (q + 1)
    simp only [skiarearef50_join.l2]
    rw [if_pos (by omega), wrm (i := q + 1) (by omega) (by omega), Nat.add_sub_cancel, if_pos (by omega), if_pos (by omega), if_pos (by omega), if_pos (by omega), going_before _ _ _ hle, going_at _ _ _ hle, Int.toNat_natCast, Int.toNat_natCast, going_step _ _ _ hle]
theorem join_l0 (l : List Int) (hl : l.length ≤ 1000) : ∀ (d i : Nat), i + d = l.length → ∀ out : List Int, out.length + (l.length - i) ≤ 2000000 →
    Ev (fun k => skiarearef50_join.l0 k out l i) ((l.drop i).foldl (fun o x => Help.insU x o) out) := by
  intro d
  induction d with
  | zero =>
    intro i hi out hb
    rw [List.drop_of_length_le (by omega)]
    exact Ev.step (f := fun _ => some out) (fun k => by simp only [skiarearef50_join.l0]; rw [if_neg (by omega)]) (Ev.now _)
  | succ d ih =>
    intro i hi out hb
    have hlt : i < l.length := by omega
    rw [List.drop_eq_getElem_cons hlt, List.foldl_cons]
    have hple := pos_le l[i] out
    have hnext : ∀ o2 : List Int, o2.length ≤ out.length + 1 → Ev (fun k => skiarearef50_join.l0 k o2 l ((i + 1 : Nat) : Int)) ((l.drop (i + 1)).foldl (fun o x => Help.insU x o) o2) := fun o2 h2 => ih (i + 1) (by omega) o2 (by omega)
    -- where the place is found
    have hj : Ev (fun k => skiarearef50_join.j2 k out l i (posOf l[i] out)) ((l.drop (i + 1)).foldl (fun o x => Help.insU x o) (Help.insU l[i] out)) := by
      rw [ins_pos l[i] out]
      have h3f : ¬ out[posOf l[i] out]? = some l[i] → Ev (fun k => skiarearef50_join.j3 k out l i (posOf l[i] out) false) ((l.drop (i + 1)).foldl (fun o x => Help.insU x o) (going out l[i] (posOf l[i] out))) := fun _ => by
        have hlen := going_len out l[i] (posOf l[i] out)
        have h2 := join_l2 l out i (posOf l[i] out) l[i] (by omega) (by omega) _ (hnext (going out l[i] (posOf l[i] out)) (by omega)) (out.length - posOf l[i] out) out.length (by omega) (Nat.le_refl _)
        refine Ev.step (f := fun k => skiarearef50_join.l2 k (going out l[i] out.length) l i (posOf l[i] out) out.length) (fun k => ?_) h2
        simp only [skiarearef50_join.j3]
        rw [if_neg (by decide), if_pos (by omega), if_pos (by omega), if_pos (by omega), rd_nat _ _ hlt]
        simp only [Option.bind_some]
        have e : going out l[i] out.length = out ++ [l[i]] := by unfold going; rw [List.take_length, List.drop_length]
        rw [e, List.length_append, List.length_singleton, wrm (by omega) (by omega), Nat.add_sub_cancel]
      by_cases c : posOf l[i] out < out.length
      · refine Ev.step (f := fun k => skiarearef50_join.j3 k out l i (posOf l[i] out) (out[posOf l[i] out] == l[i])) (fun k => ?_) ?_
        · simp only [skiarearef50_join.j2]
          rw [if_pos (by omega), if_pos (by omega), if_pos (by omega), if_pos (by omega), rd_nat _ _ c, rd_nat _ _ hlt]
        · by_cases e : out[posOf l[i] out] = l[i]
          · rw [if_pos (by rw [List.getElem?_eq_getElem c, e]), beq_iff_eq.2 e]
            exact Ev.step (f := fun k => skiarearef50_join.l0 k out l ((i + 1 : Nat) : Int)) (fun k => by simp only [skiarearef50_join.j3]; rw [if_pos trivial, wr1 (by omega)]) (hnext out (by omega))
          · have hne : ¬ out[posOf l[i] out]? = some l[i] := by rw [List.getElem?_eq_getElem c]; simpa using e
            rw [if_neg hne, beq_eq_false_iff_ne.2 e]
            exact h3f hne
      · have hne : ¬ out[posOf l[i] out]? = some l[i] := by rw [List.getElem?_eq_none (by omega)]; simp
        rw [if_neg hne]
        exact Ev.step (f := fun k => skiarearef50_join.j3 k out l i (posOf l[i] out) false) (fun k => by simp only [skiarearef50_join.j2]; rw [if_neg (by omega)]) (h3f hne)
    -- the search
    have hsearch : ∀ (e a : Nat), a + e = posOf l[i] out → Ev (fun k => skiarearef50_join.l1 k out l i a) ((l.drop (i + 1)).foldl (fun o x => Help.insU x o) (Help.insU l[i] out)) := by
      intro e
      induction e with
      | zero =>
        intro a ha
        obtain rfl : a = posOf l[i] out := ha
        refine Ev.step (f := fun k => skiarearef50_join.j2 k out l i (posOf l[i] out)) (fun k => ?_) hj
        simp only [skiarearef50_join.l1]
        by_cases c : posOf l[i] out < out.length
        · have := pos_at l[i] out c
          rw [if_pos (by omega), if_pos (by omega), if_pos (by omega), if_pos (by omega), rd_nat _ _ c, rd_nat _ _ hlt, if_neg this]
        · rw [if_neg (by omega)]
      | succ e ihe =>
        intro a ha
        have hal : a < out.length := by omega
        have := pos_below l[i] out a (by omega)
        exact Ev.step (f := fun k => skiarearef50_join.l1 k out l i ((a + 1 : Nat) : Int)) (fun k => by
          simp only [skiarearef50_join.l1]
          rw [if_pos (by omega), if_pos (by omega), if_pos (by omega), if_pos (by omega), rd_nat _ _ hal, rd_nat _ _ hlt, if_pos this, wr1 (by omega)]) (ihe (a + 1) (by omega))
    exact Ev.step (f := fun k => skiarearef50_join.l1 k out l i ((0 : Nat) : Int)) (fun k => by simp only [skiarearef50_join.l0]; rw [if_pos (by omega)]; rfl) (hsearch (posOf l[i] out) 0 (by omega))
theorem join (l out : List Int) (hl : l.length ≤ 1000) (hb : out.length ≤ 1000000) : Ev (fun k => skiarearef50_join.f k out l) (l.foldl (fun o x => Help.insU x o) out) := by
  have := join_l0 l hl l.length 0 (by omega) out (by omega)
  rw [List.drop_zero] at this
  exact Ev.cg this (fun k => rfl)
theorem fold_ins : ∀ (l out : List Int), out.Pairwise (· < ·) → (l.foldl (fun o x => Help.insU x o) out).Pairwise (· < ·) ∧ ∀ z, z ∈ l.foldl (fun o x => Help.insU x o) out ↔ z ∈ out ∨ z ∈ l
  | [], out, h => ⟨h, by simp⟩
  | x :: l, out, h => by
    obtain ⟨h1, h2⟩ := fold_ins l (Help.insU x out) (Help.inc_insU x out h)
    refine ⟨h1, fun z => ?_⟩
    rw [List.foldl_cons, h2, Help.mem_insU, List.mem_cons]
    constructor
    · rintro ((h | h) | h)
      · exact .inr (.inl h)
      · exact .inl h
      · exact .inr (.inr h)
    · rintro (h | h | h)
      · exact .inl (.inr h)
      · exact .inl (.inl h)
      · exact .inr h
theorem fold_sset (l t : List Int) : l.foldl (fun o x => Help.insU x o) (Help.sset t) = Help.sset (t ++ l) := by
  obtain ⟨h1, h2⟩ := fold_ins l (Help.sset t) (Help.inc_sset t)
  refine Help.inc_ext _ _ h1 (Help.inc_sset _) (fun z => ?_)
  rw [h2, Help.mem_sset, Help.mem_sset, List.mem_append]
theorem sset_len_le (l : List Int) : (Help.sset l).length ≤ l.length := by
  induction l with
  | nil => simp [Help.sset]
  | cons x l ih =>
    have h : ∀ y (m : List Int), (Help.insU y m).length ≤ m.length + 1 := by
      intro y m
      induction m with
      | nil => simp [Help.insU]
      | cons z m ihm =>
        unfold Help.insU
        split
        · simp
        · split
          · simp
          · simp only [List.length_cons]; omega
    show (Help.insU x (Help.sset l)).length ≤ _
    have := h x (Help.sset l)
    simp only [List.length_cons]; omega
/-- What the lists' functions ask. -/
def FineL (l : List S34) : Prop := l.length ≤ 1000 ∧ ∀ x ∈ l, Fine x ∧ 4 ≤ x.f3 ∧ x.f3 ≤ 100000
theorem thr_bound (b : Bool) (l : List S34) (lv : List Int) (hf : FineL l) (i : Nat) : (Help.sset (threatB b (l.take i) lv)).length ≤ 1000000 := by
  have h1 := sset_len_le (threatB b (l.take i) lv)
  have h2 := thr_len b (l.take i) lv (fun x hx => ⟨(hf.2 x (List.mem_of_mem_take hx)).1.2.1, (hf.2 x (List.mem_of_mem_take hx)).1.2.2.1⟩)
  exact Nat.le_trans h1 (Nat.le_trans h2 (Nat.le_trans (Nat.mul_le_mul_right 1000 (List.length_take_le' i l)) (Nat.mul_le_mul_right 1000 hf.1)))
theorem zonesR_l0 (l : List S34) (lv : List Int) (hf : FineL l) (hl : lv.length ≤ 100000) : ∀ (d i : Nat), i + d = l.length → Ev (fun k => skiarearef50_Zones.l0 k l lv (Help.sset (threatB true (l.take i) lv)) i) (Help.sset (threatB true l lv)) := by
  intro d
  have hl0 := hf.1
  induction d with
  | zero =>
    intro i hi
    rw [List.take_of_length_le (by omega)]
    exact Ev.step (f := fun _ => some (Help.sset (threatB true l lv))) (fun k => by simp only [skiarearef50_Zones.l0]; rw [if_neg (by omega)]) (Ev.now _)
  | succ d ih =>
    intro i hi
    have hlt : i < l.length := by omega
    have hx := hf.2 _ (List.getElem_mem hlt)
    have hn := ih (i + 1) (by omega)
    rw [thr_take true l lv i hlt] at hn
    refine Ev.step (f := fun k => (skiarearef50_Unstable.f k l[i].f0 l[i].f1 l[i].f2 l[i].f3 l[i].f4 l[i].f5 lv).bind fun t224 => (if t224 = true then ((skiarearef50_join.f k (Help.sset (threatB true (l.take i) lv)) l[i].f1).bind fun t226 => (skiarearef50_Zones.l0 k l lv t226 ((i + 1 : Nat) : Int))) else (skiarearef50_Zones.l0 k l lv (Help.sset (threatB true (l.take i) lv)) ((i + 1 : Nat) : Int)))) (fun k => by simp only [skiarearef50_Zones.l0]; rw [if_pos (by omega), if_pos (by omega), rdS_nat _ _ hlt, wr1 (by omega)]) ?_
    refine Ev.bind (unstableR _ lv hx.1 hl hx.2) ?_
    cases hu : unstB lv l[i] with
    | true =>
      rw [hu, if_pos rfl] at hn
      simp only [if_true]
      refine Ev.bind (join _ _ hx.1.2.1 (thr_bound true l lv hf i)) ?_
      rw [fold_sset]
      exact hn
    | false =>
      rw [hu, if_neg (by decide), List.append_nil] at hn
      exact hn
theorem zonesR (l : List S34) (lv : List Int) (hf : FineL l) (hl : lv.length ≤ 100000) : Ev (fun k => skiarearef50_Zones.f k l lv) (Help.sset (threatB true l lv)) := by
  have := zonesR_l0 l lv hf hl l.length 0 (by omega)
  exact Ev.cg this (fun k => rfl)
theorem liftsR_l0 (l : List S34) (lv : List Int) (hf : FineL l) (hl : lv.length ≤ 100000) : ∀ (d i : Nat), i + d = l.length → Ev (fun k => skiarearef50_Lifts.l0 k l lv (Help.sset (threatB false (l.take i) lv)) i) (Help.sset (threatB false l lv)) := by
  intro d
  have hl0 := hf.1
  induction d with
  | zero =>
    intro i hi
    rw [List.take_of_length_le (by omega)]
    exact Ev.step (f := fun _ => some (Help.sset (threatB false l lv))) (fun k => by simp only [skiarearef50_Lifts.l0]; rw [if_neg (by omega)]) (Ev.now _)
  | succ d ih =>
    intro i hi
    have hlt : i < l.length := by omega
    have hx := hf.2 _ (List.getElem_mem hlt)
    have hn := ih (i + 1) (by omega)
    rw [thr_take false l lv i hlt] at hn
    refine Ev.step (f := fun k => (skiarearef50_Unstable.f k l[i].f0 l[i].f1 l[i].f2 l[i].f3 l[i].f4 l[i].f5 lv).bind fun t224 => (if t224 = true then ((skiarearef50_join.f k (Help.sset (threatB false (l.take i) lv)) l[i].f2).bind fun t226 => (skiarearef50_Lifts.l0 k l lv t226 ((i + 1 : Nat) : Int))) else (skiarearef50_Lifts.l0 k l lv (Help.sset (threatB false (l.take i) lv)) ((i + 1 : Nat) : Int)))) (fun k => by simp only [skiarearef50_Lifts.l0]; rw [if_pos (by omega), if_pos (by omega), rdS_nat _ _ hlt, wr1 (by omega)]) ?_
    refine Ev.bind (unstableR _ lv hx.1 hl hx.2) ?_
    cases hu : unstB lv l[i] with
    | true =>
      rw [hu, if_pos rfl] at hn
      simp only [if_true]
      refine Ev.bind (join _ _ hx.1.2.2.1 (thr_bound false l lv hf i)) ?_
      rw [fold_sset]
      exact hn
    | false =>
      rw [hu, if_neg (by decide), List.append_nil] at hn
      exact hn
theorem liftsR (l : List S34) (lv : List Int) (hf : FineL l) (hl : lv.length ≤ 100000) : Ev (fun k => skiarearef50_Lifts.f k l lv) (Help.sset (threatB false l lv)) := by
  have := liftsR_l0 l lv hf hl l.length 0 (by omega)
  exact Ev.cg this (fun k => rfl)
theorem fine_of {l : List S34} (hs : smallB l = true) (hr : Right l) : FineL l := by
  refine ⟨by have := (small_all hs).1; omega, fun x hx => ⟨⟨(hr.2.1 x hx).2.1, by have := (small_all hs).2 x hx; omega, by have := (small_all hs).2 x hx; omega, fun z hz => ?_⟩, ?_⟩⟩
  · exact ((up_mem 32 x.f1 0 (hr.2.1 x hx).2.2.1).1 z hz).1
  · have := right_nums hr hx; omega
theorem fine_all {l : List S34} (hf : FineL l) {lv : List Int} (hl : lv.length ≤ 100000) : FineAll l lv := ⟨hf.1, hl, fun x hx => (hf.2 x hx).1⟩
end Go.Proofs.Ytfjnpdgjigkbcaa.Pure
