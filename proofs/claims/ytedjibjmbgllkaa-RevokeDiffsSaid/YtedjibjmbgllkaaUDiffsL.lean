/- RevokeDiffs: Diff and Apply answer as specified. No condition. -/
import Derived.Test.YtedjibjmbgllkaaPAllx14
import Derived.Test.YtedjibjmbgllkaaPAllx17
import Derived.Test.YtedjibjmbgllkaaPAllx18
import Derived.Test.YtedjibjmbgllkaaPAllx8
import Derived.Test.YtedjibjmbgllkaaPAllx9
import Derived.Test.YtedjibjmbgllkaaUApply
import Derived.Test.YtedjibjmbgllkaaGAlive
namespace Go.Proofs.Ytedjibjmbgllkaa.Pure
open Go.RowKit Go.Proofs.Ytedjibjmbgllkaa.PAll Go.Proofs.YtedjibjmbgllkaaW.PrintWords Go.Proofs.YtedjibjmbgllkaaW.PrintLast Go.Proofs.YtedjibjmbgllkaaW.PrintMore
set_option linter.unusedVariables false
set_option linter.unusedSimpArgs false
/-! ### the reference's lists -/
theorem put_l0 (l : List Int) (n : Int) (hb : l.length ≤ 1000000) : ∀ (d i : Nat), i + d = l.length → ∀ (acc : List Int) (b : Bool), acc.length ≤ i + b.toNat → Ev (fun k => skiarearef27_put.l0 k l n acc b i) (if b = true then acc ++ l.drop i else acc ++ Help.insU n (l.drop i)) := by
  intro d
  induction d with
  | zero =>
    intro i hi acc b hacc
    rw [List.drop_of_length_le (by omega)]
    cases b with
    | true => exact Ev.step (f := fun _ => some acc) (fun k => by simp only [skiarearef27_put.l0]; rw [if_neg (by omega), if_pos trivial]) (ev_some (by simp))
    | false => exact Ev.step (f := fun _ => some (acc ++ [n])) (fun k => by simp only [skiarearef27_put.l0]; rw [if_neg (by omega), if_neg (by decide), if_pos (by simp only [Bool.toNat_false] at hacc; omega)]) (ev_some (by simp [Help.insU]))
  | succ d ih =>
    intro i hi acc b hacc
    have h1 : i < l.length := by omega
    have hb1 : b.toNat ≤ 1 := by cases b <;> decide
    have hcopy : ∀ b' : Bool, b' = b → Ev (fun k => skiarearef27_put.j1 k l n acc b' i false) (if b' = true then acc ++ l[i] :: l.drop (i + 1) else acc ++ l[i] :: Help.insU n (l.drop (i + 1))) := by
      intro b' hbb
      refine Ev.step (f := fun k => skiarearef27_put.l0 k l n (acc ++ [l[i]]) b' ((i + 1 : Nat) : Int)) (fun k => by simp only [skiarearef27_put.j1]; rw [if_neg (by decide), if_pos (by omega), if_pos (by omega), if_pos (by omega), rd_nat _ _ h1, wr1 (by omega)]) ?_
      have := ih (i + 1) (by omega) (acc ++ [l[i]]) b' (by rw [List.length_append, List.length_singleton, hbb]; omega)
      rw [List.append_assoc, List.append_assoc] at this
      exact this
    rw [List.drop_eq_getElem_cons h1]
    cases b with
    | true =>
      exact Ev.step (f := fun k => skiarearef27_put.j1 k l n acc true i false) (fun k => by simp only [skiarearef27_put.l0]; rw [if_pos (by omega), if_pos trivial]) (hcopy true rfl)
    | false =>
      simp only [Bool.toNat_false, Nat.add_zero] at hacc
      simp only [if_neg (show ¬ (false = true) by decide)]
      refine Ev.step (f := fun k => skiarearef27_put.j1 k l n acc false i (decide (l[i] ≥ n))) (fun k => by simp only [skiarearef27_put.l0]; rw [if_pos (by omega), if_neg (by decide), if_pos (by omega), rd_nat _ _ h1]) ?_
      unfold Help.insU
      by_cases c : l[i] ≥ n
      · rw [decide_eq_true c]
        by_cases c2 : l[i] > n
        · rw [if_pos (by omega)]
          refine Ev.step (f := fun k => skiarearef27_put.l0 k l n ((acc ++ [n]) ++ [l[i]]) true ((i + 1 : Nat) : Int)) (fun k => by
            simp only [skiarearef27_put.j1]
            rw [if_pos trivial, if_pos (by omega), if_pos (by omega), rd_nat _ _ h1, if_pos c2, if_pos (by omega)]
            simp only [Option.bind_some]
            rw [if_pos (by simp; omega), wr1 (by omega)]) ?_
          have := ih (i + 1) (by omega) ((acc ++ [n]) ++ [l[i]]) true (by simp; omega)
          rw [if_pos rfl, show ((acc ++ [n]) ++ [l[i]]) ++ l.drop (i + 1) = acc ++ n :: l[i] :: l.drop (i + 1) from by rw [List.append_assoc, List.append_assoc]; rfl] at this
          exact this
        · rw [if_neg (by omega), if_pos (by omega)]
          refine Ev.step (f := fun k => skiarearef27_put.l0 k l n (acc ++ [l[i]]) true ((i + 1 : Nat) : Int)) (fun k => by simp only [skiarearef27_put.j1]; rw [if_pos trivial, if_pos (by omega), if_pos (by omega), rd_nat _ _ h1, if_neg c2, if_pos (by omega), wr1 (by omega)]) ?_
          have := ih (i + 1) (by omega) (acc ++ [l[i]]) true (by simp; omega)
          rw [if_pos rfl, show (acc ++ [l[i]]) ++ l.drop (i + 1) = acc ++ l[i] :: l.drop (i + 1) from by rw [List.append_assoc]; rfl] at this
          exact this
      · rw [decide_eq_false c, if_neg (by omega), if_neg (by omega)]
        exact hcopy false rfl
theorem put (l : List Int) (n : Int) (hb : l.length ≤ 1000000) : Ev (fun k => skiarearef27_put.f k l n) (Help.insU n l) := by
  have := put_l0 l n hb l.length 0 (by omega) [] false (by simp)
  rw [if_neg (by decide), List.drop_zero, List.nil_append] at this
  exact Ev.cg this (fun k => rfl)
theorem ins_len (y : Int) (m : List Int) : (Help.insU y m).length ≤ m.length + 1 := by
  induction m with
  | nil => simp [Help.insU]
  | cons z m ihm =>
    unfold Help.insU
    split
    · simp
    · split
      · simp
      · simp only [List.length_cons]; omega
def fold (l out : List Int) : List Int := l.foldl (fun o x => Help.insU x o) out
theorem fold_len : ∀ (l out : List Int), (fold l out).length ≤ out.length + l.length
  | [], out => by simp [fold]
  | x :: l, out => by
    have h1 := fold_len l (Help.insU x out)
    have h2 := ins_len x out
    simp only [fold, List.foldl_cons, List.length_cons] at h1 ⊢
    omega
theorem fold_ins : ∀ (l out : List Int), out.Pairwise (· < ·) → (fold l out).Pairwise (· < ·) ∧ ∀ z, z ∈ fold l out ↔ z ∈ out ∨ z ∈ l
  | [], out, h => ⟨h, by simp [fold]⟩
  | x :: l, out, h => by
    obtain ⟨h1, h2⟩ := fold_ins l (Help.insU x out) (Help.inc_insU x out h)
    refine ⟨h1, fun z => ?_⟩
    show z ∈ fold l (Help.insU x out) ↔ _
    rw [h2, Help.mem_insU, List.mem_cons]
    constructor
    · rintro ((h | h) | h)
      · exact .inr (.inl h)
      · exact .inl h
      · exact .inr (.inr h)
    · rintro (h | h | h)
      · exact .inl (.inr h)
      · exact .inl (.inl h)
      · exact .inr h
theorem fold_sset (l t : List Int) : fold l (Help.sset t) = Help.sset (t ++ l) := by
  obtain ⟨h1, h2⟩ := fold_ins l (Help.sset t) (Help.inc_sset t)
  refine Help.inc_ext _ _ h1 (Help.inc_sset _) (fun z => ?_)
  rw [h2, Help.mem_sset, Help.mem_sset, List.mem_append]
theorem with_l1 (b : List Int) (hb : b.length ≤ 10000) : ∀ (d i : Nat), i + d = b.length → ∀ acc : List Int, acc.length ≤ 20000 + i → Ev (fun k => skiarearef27_with.l1 k b acc i) (fold (b.drop i) acc) := by
  intro d
  induction d with
  | zero =>
    intro i hi acc hacc
    rw [List.drop_of_length_le (by omega)]
    exact Ev.step (f := fun _ => some acc) (fun k => by simp only [skiarearef27_with.l1]; rw [if_neg (by omega)]) (ev_some rfl)
  | succ d ih =>
    intro i hi acc hacc
    have h1 : i < b.length := by omega
    rw [List.drop_eq_getElem_cons h1]
    refine Ev.step (f := fun k => (skiarearef27_put.f k acc b[i]).bind fun t187 => (skiarearef27_with.l1 k b t187 ((i + 1 : Nat) : Int))) (fun k => by simp only [skiarearef27_with.l1]; rw [if_pos (by omega), if_pos (by omega), rd_nat _ _ h1, wr1 (by omega)]) ?_
    exact Ev.bind (put acc b[i] (by omega)) (ih (i + 1) (by omega) (Help.insU b[i] acc) (by have := ins_len b[i] acc; omega))
theorem with_l0 (a b : List Int) (ha : a.length ≤ 10000) (hb : b.length ≤ 10000) : ∀ (d i : Nat), i + d = a.length → ∀ acc : List Int, acc.length ≤ i → Ev (fun k => skiarearef27_with.l0 k a b acc i) (fold b (fold (a.drop i) acc)) := by
  intro d
  induction d with
  | zero =>
    intro i hi acc hacc
    rw [List.drop_of_length_le (by omega)]
    have := with_l1 b hb b.length 0 (by omega) acc (by omega)
    rw [List.drop_zero] at this
    exact Ev.step (f := fun k => skiarearef27_with.l1 k b acc ((0 : Nat) : Int)) (fun k => by simp only [skiarearef27_with.l0]; rw [if_neg (by omega)]; rfl) this
  | succ d ih =>
    intro i hi acc hacc
    have h1 : i < a.length := by omega
    rw [List.drop_eq_getElem_cons h1]
    refine Ev.step (f := fun k => (skiarearef27_put.f k acc a[i]).bind fun t183 => (skiarearef27_with.l0 k a b t183 ((i + 1 : Nat) : Int))) (fun k => by simp only [skiarearef27_with.l0]; rw [if_pos (by omega), if_pos (by omega), rd_nat _ _ h1, wr1 (by omega)]) ?_
    exact Ev.bind (put acc a[i] (by omega)) (ih (i + 1) (by omega) (Help.insU a[i] acc) (by have := ins_len a[i] acc; omega))
theorem withR (a b : List Int) (ha : a.length ≤ 10000) (hb : b.length ≤ 10000) : Ev (fun k => skiarearef27_with.f k a b) (Help.sset (a ++ b)) := by
  have := with_l0 a b ha hb a.length 0 (by omega) [] (by simp)
  rw [List.drop_zero, show ([] : List Int) = Help.sset [] from rfl, fold_sset, fold_sset, List.nil_append] at this
  exact Ev.cg this (fun k => rfl)
theorem without_l0 (a b : List Int) (ha : a.length ≤ 30000) (hb : b.length ≤ 30000) : ∀ (d i : Nat), i + d = a.length → ∀ acc : List Int, acc.length ≤ i → Ev (fun k => skiarearef27_without.l0 k a b acc i) (fold (minusS (a.drop i) b) acc) := by
  intro d
  induction d with
  | zero =>
    intro i hi acc hacc
    rw [List.drop_of_length_le (by omega)]
    exact Ev.step (f := fun _ => some acc) (fun k => by simp only [skiarearef27_without.l0]; rw [if_neg (by omega)]) (ev_some rfl)
  | succ d ih =>
    intro i hi acc hacc
    have h1 : i < a.length := by omega
    rw [List.drop_eq_getElem_cons h1]
    unfold minusS
    rw [List.filter_cons]
    refine Ev.step (f := fun k => (skiarearef27_in.f k b a[i]).bind fun t191 => (if t191 = true then (skiarearef27_without.l0 k a b acc ((i + 1 : Nat) : Int)) else ((skiarearef27_put.f k acc a[i]).bind fun t193 => (skiarearef27_without.l0 k a b t193 ((i + 1 : Nat) : Int))))) (fun k => by simp only [skiarearef27_without.l0]; rw [if_pos (by omega), if_pos (by omega), rd_nat _ _ h1, wr1 (by omega)]) ?_
    refine Ev.bind (inR b a[i] (by omega)) ?_
    by_cases e : a[i] ∈ b
    · simp only [decide_eq_true e, if_true, Bool.not_true, if_neg (show ¬ (false = true) by decide)]
      exact ih (i + 1) (by omega) acc (by omega)
    · simp only [decide_eq_false e, Bool.not_false, if_true, if_neg (show ¬ (false = true) by decide)]
      exact Ev.bind (put acc a[i] (by omega)) (ih (i + 1) (by omega) (Help.insU a[i] acc) (by have := ins_len a[i] acc; omega))
theorem withoutR (a b : List Int) (ha : a.length ≤ 30000) (hb : b.length ≤ 30000) : Ev (fun k => skiarearef27_without.f k a b) (Help.sset (minusS a b)) := by
  have := without_l0 a b ha hb a.length 0 (by omega) [] (by simp)
  rw [List.drop_zero, show ([] : List Int) = Help.sset [] from rfl, fold_sset, List.nil_append] at this
  exact Ev.cg this (fun k => rfl)
theorem diffR (va : Int) (a : List Int) (vb : Int) (b : List Int) (ha : a.length ≤ 10000) (hb : b.length ≤ 10000) (ia : Inc a) (ib : Inc b) : Ev (fun k => skiarearef27_Diff.f k va a vb b) (diffS va a vb b) := by
  refine Ev.cg (f := fun k => (skiarearef27_without.f k b a).bind fun t285 => ((skiarearef27_without.f k a b).bind fun t288 => (some (va, vb, t285, t288)))) ?_ (fun k => rfl)
  have e1 := (sset_inc _).2 (minus_inc (b := a) ib)
  have e2 := (sset_inc _).2 (minus_inc (b := b) ia)
  have h1 := withoutR b a (by omega) (by omega)
  have h2 := withoutR a b (by omega) (by omega)
  rw [← e1] at h1
  rw [← e2] at h2
  exact Ev.bind h1 (Ev.bind (f := fun _ q => some (va, vb, minusS b a, q)) h2 (Ev.now _))
/-! ### the reference's Apply -/
theorem new_eq (l add drop : List Int) (h1 : ∀ x ∈ add, x ∉ l) (h2 : ∀ x ∈ drop, x ∈ l) : Help.sset (minusS (Help.sset (l ++ add)) drop) = newL l add drop := by
  refine Help.inc_ext _ _ (Help.inc_sset _) (Help.inc_sset (minusS l drop ++ add)) (fun z => ?_)
  show z ∈ Help.sset _ ↔ z ∈ Help.sset _
  rw [Help.mem_sset, Help.mem_sset, mem_minus, Help.mem_sset, List.mem_append, List.mem_append, mem_minus]
  constructor
  · rintro ⟨h | h, h3⟩
    · exact .inl ⟨h, h3⟩
    · exact .inr h
  · rintro (⟨h, h3⟩ | h)
    · exact ⟨.inl h, h3⟩
    · exact ⟨.inr h, fun h3 => h1 z h (h2 z h3)⟩
theorem applyR_l1 (v : Int) (l : List Int) (f t : Int) (add drop : List Int) (hl : l.length ≤ 1000) (ha : add.length ≤ 1000) (hd : drop.length ≤ 1000) (hadd : ∀ x ∈ add, x ∉ l) : ∀ (d i : Nat), i + d = drop.length → (∀ x ∈ drop.take i, x ∈ l) →
    Ev (fun k => skiarearef27_Apply.l1 k i v l f t add drop) (dropS l t (newL l add drop) (drop.drop i)) := by
  intro d
  induction d with
  | zero =>
    intro i hi hin
    rw [List.take_of_length_le (by omega)] at hin
    rw [List.drop_of_length_le (by omega)]
    have hs := sset_len_le (l ++ add)
    rw [List.length_append] at hs
    refine Ev.step (f := fun k => ((skiarearef27_with.f k l add).bind fun t261 => ((skiarearef27_without.f k t261 drop).bind fun t264 => ((skiarearef27_Right.f k t t264).bind fun t268 => (if t268 = 0 then (some (t, t264, 0)) else (some (0, ([] : List Int), t268))))))) (fun k => by simp only [skiarearef27_Apply.l1]; rw [if_neg (by omega)]) ?_
    refine Ev.bind (withR l add (by omega) (by omega)) (Ev.bind (withoutR _ drop (by omega) (by omega)) ?_)
    rw [new_eq l add drop hadd hin]
    have hnl := new_len l add drop
    refine Ev.bind (rightR t (newL l add drop) (by omega)) (ev_some' ?_)
    unfold dropS endS
    by_cases c : rightC t (newL l add drop) = 0
    · rw [if_pos c, if_pos c]
    · rw [if_neg c, if_neg c]
  | succ d ih =>
    intro i hi hin
    have h1 : i < drop.length := by omega
    rw [List.drop_eq_getElem_cons h1]
    unfold dropS
    refine Ev.step (f := fun k => ((skiarearef27_Has.f k v l drop[i]).bind fun t260 => (if t260 = true then (skiarearef27_Apply.l1 k ((i + 1 : Nat) : Int) v l f t add drop) else (some (0, ([] : List Int), 8))))) (fun k => by simp only [skiarearef27_Apply.l1]; rw [if_pos (by omega), if_pos (by omega), rd_nat _ _ h1, wr1 (by omega)]) ?_
    refine Ev.bind (hasR v l drop[i] (by omega)) ?_
    by_cases e : drop[i] ∈ l
    · simp only [decide_eq_true e, if_true, if_pos e]
      refine ih (i + 1) (by omega) (fun x hx => ?_)
      rw [List.take_succ_eq_append_getElem h1] at hx
      rcases List.mem_append.1 hx with h | h
      · exact hin x h
      · rw [List.mem_singleton.1 h]; exact e
    · simp only [decide_eq_false e, if_neg e, if_neg (show ¬ (false = true) by decide)]
      exact Ev.now _
theorem applyR_l0 (v : Int) (l : List Int) (f t : Int) (add drop : List Int) (hl : l.length ≤ 1000) (ha : add.length ≤ 1000) (hd : drop.length ≤ 1000) : ∀ (d i : Nat), i + d = add.length → (∀ x ∈ add.take i, x ∉ l) →
    Ev (fun k => skiarearef27_Apply.l0 k i v l f t add drop) (addS l t (newL l add drop) drop (add.drop i)) := by
  intro d
  induction d with
  | zero =>
    intro i hi hin
    rw [List.take_of_length_le (by omega)] at hin
    rw [List.drop_of_length_le (by omega)]
    have := applyR_l1 v l f t add drop hl ha hd hin drop.length 0 (by omega) (by simp)
    rw [List.drop_zero] at this
    exact Ev.step (f := fun k => skiarearef27_Apply.l1 k ((0 : Nat) : Int) v l f t add drop) (fun k => by simp only [skiarearef27_Apply.l0]; rw [if_neg (by omega)]; rfl) this
  | succ d ih =>
    intro i hi hin
    have h1 : i < add.length := by omega
    rw [List.drop_eq_getElem_cons h1]
    unfold addS
    refine Ev.step (f := fun k => ((skiarearef27_Has.f k v l add[i]).bind fun t258 => (if t258 = true then (some (0, ([] : List Int), 7)) else (skiarearef27_Apply.l0 k ((i + 1 : Nat) : Int) v l f t add drop)))) (fun k => by simp only [skiarearef27_Apply.l0]; rw [if_pos (by omega), if_pos (by omega), rd_nat _ _ h1, wr1 (by omega)]) ?_
    refine Ev.bind (hasR v l add[i] (by omega)) ?_
    by_cases e : add[i] ∈ l
    · simp only [decide_eq_true e, if_true, if_pos e]
      exact Ev.now _
    · simp only [decide_eq_false e, if_neg e, if_neg (show ¬ (false = true) by decide)]
      refine ih (i + 1) (by omega) (fun x hx => ?_)
      rw [List.take_succ_eq_append_getElem h1] at hx
      rcases List.mem_append.1 hx with h | h
      · exact hin x h
      · rw [List.mem_singleton.1 h]; exact e
theorem applyR (v : Int) (l : List Int) (f t : Int) (add drop : List Int) (hl : l.length ≤ 1000) (ha : add.length ≤ 1000) (hd : drop.length ≤ 1000) : Ev (fun k => skiarearef27_Apply.f k v l f t add drop) (applyS v l f t add drop) := by
  unfold applyS
  by_cases c : f = v
  · rw [if_pos c]
    by_cases c2 : t < f
    · rw [if_pos c2]
      exact Ev.cg (f := fun _ => some (0, [], 11)) (Ev.now _) (fun k => by simp only [skiarearef27_Apply.f]; rw [if_pos c, if_pos c2])
    · rw [if_neg c2]
      have := applyR_l0 v l f t add drop hl ha hd add.length 0 (by omega) (by simp)
      rw [List.drop_zero] at this
      exact Ev.cg this (fun k => by simp only [skiarearef27_Apply.f]; rw [if_pos c, if_neg c2]; rfl)
  · rw [if_neg c]
    exact Ev.cg (f := fun _ => some (0, [], 14)) (Ev.now _) (fun k => by simp only [skiarearef27_Apply.f]; rw [if_neg c])
theorem RevokeDiffs (va : Int) (a : List Int) (vb : Int) (b : List Int) (f t : Int) (add drop : List Int) : ∃ k, skiarealaw27_RevokeDiffs.f k va a vb b f t add drop = some true := by
  refine Ev.rounds (Ev.cg (f := fun k => ((skiarealaw27_right.f k va a).bind fun t295 => (if t295 = true then ((skiarealaw27_right.f k vb b).bind fun t296 => (if t296 = true then ((skiarealaw27_few.f add).bind fun t297 => (if t297 = true then ((skiarealaw27_few.f drop).bind fun t298 => (if t298 = true then ((revoke_Apply.f k va a f t add drop).bind fun bt299 => ((skiarearef27_Apply.f k va a f t add drop).bind fun bt305 => ((revoke_Diff.f k va a vb b).bind fun bt311 => ((skiarearef27_Diff.f k va a vb b).bind fun bt319 => ((skiarearef27_SameRevision.f k bt311.1 bt311.2.1 bt311.2.2.1 bt311.2.2.2 bt319.1 bt319.2.1 bt319.2.2.1 bt319.2.2.2).bind fun t327 => (if t327 = true then ((skiarearef27_Same.f k bt299.1 bt299.2.1 bt305.1 bt305.2.1).bind fun t328 => (if t328 = true then (some (bt299.2.2 == bt305.2.2)) else (none))) else (none))))))) else (some true))) else (some true))) else (some true))) else (some true)))) ?_ (fun k => rfl))
  refine Ev.bind (lawRight va a) ?_
  cases h1 : okB va a with
  | false => exact Ev.now _
  | true =>
    have hr1 := (right_zero va a).1 (of_decide_eq_true h1)
    simp only [if_true]
    refine Ev.bind (lawRight vb b) ?_
    cases h2 : okB vb b with
    | false => exact Ev.now _
    | true =>
      have hr2 := (right_zero vb b).1 (of_decide_eq_true h2)
      simp only [if_true]
      rw [few_eq, few_eq]
      refine Ev.bind (Ev.now _) ?_
      by_cases c1 : add.length ≤ 250
      · simp only [decide_eq_true c1, if_true]
        refine Ev.bind (Ev.now _) ?_
        by_cases c2 : drop.length ≤ 250
        · simp only [decide_eq_true c2, if_true]
          have hlen := apply_len va a f t add drop
          refine Ev.bind (applyW va a f t add drop hr1.2.2.2 (by omega) (by omega) (by omega)) (Ev.bind (applyR va a f t add drop (by omega) (by omega) (by omega)) ?_)
          refine Ev.bind (diffW va a vb b (by omega) (by omega)) (Ev.bind (diffR va a vb b (by omega) (by omega) hr1.2.2.2 hr2.2.2.2) ?_)
          have hm1 := minus_len b a
          have hm2 := minus_len a b
          refine Ev.bind (sameRev _ _ _ _ (show (minusS b a).length ≤ 1000000 by omega) (show (minusS a b).length ≤ 1000000 by omega)) ?_
          simp only [if_true]
          refine Ev.bind (sameV _ _ (by omega)) ?_
          simp only [if_true]
          exact ev_some (by simp)
        · simp only [decide_eq_false c2, if_neg (show ¬ (false = true) by decide)]
          exact Ev.now _
      · simp only [decide_eq_false c1, if_neg (show ¬ (false = true) by decide)]
        exact Ev.now _
end Go.Proofs.Ytedjibjmbgllkaa.Pure
