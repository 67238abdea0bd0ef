/- What Level and Unstable answer for a path with zones from 1 on, in plain lists. -/
import Derived.Test.YtfjnpdgjigkbcaaPAllx21
import Derived.Test.YtfjnpdgjigkbcaaPAllx23
import Derived.Test.YtfjnpdgjigkbcaaGBase
namespace Go.Proofs.Ytfjnpdgjigkbcaa.Pure
open Go.RowKit Go.Proofs.Ytfjnpdgjigkbcaa.PAll Go.Proofs.YtfjnpdgjigkbcaaW.PrintWords Go.Proofs.YtfjnpdgjigkbcaaW.PrintLast Go.Proofs.YtfjnpdgjigkbcaaW.PrintMore
set_option linter.unusedVariables false
set_option linter.unusedSimpArgs false

theorem wr1 {i : Nat} (h : i < 4611686018427387904) : wrap64 ((i : Int) + 1) = ((i + 1 : Nat) : Int) := by unfold wrap64; omega
theorem wrm {i : Nat} (h : i < 4611686018427387904) (h0 : 0 < i) : wrap64 ((i : Int) - 1) = ((i - 1 : Nat) : Int) := by unfold wrap64; omega
theorem wr_small {x : Int} (h : -4611686018427387904 < x) (h2 : x < 4611686018427387904) : wrap64 x = x := by unfold wrap64; omega
theorem rd_nat (l : List Int) (i : Nat) (h : i < l.length) : rd l (i : Int) = l[i] := by simp [rd, List.getD_eq_getElem?_getD, h]
theorem rdS_nat (l : List S34) (i : Nat) (h : i < l.length) : rd_T34 l (i : Int) = l[i] := by simp [rd_T34, List.getD_eq_getElem?_getD, h]
theorem Ev.cg {α : Type} {g f : Nat → Option α} {r : α} (k : Ev f r) (h : ∀ k, g k = f k) : Ev g r := Ev.congr h k
theorem ev_some {α : Type} {r s : α} (h : r = s) : Ev (fun _ => some r) s := by subst h; exact Ev.now r
theorem ev_some' {α : Type} {o : Option α} {s : α} (h : o = some s) : Ev (fun _ => o) s := by subst h; exact Ev.now s

def lev1 (lv : List Int) (z : Int) : Int := if z ≤ (lv.length : Int) then rd lv (z - 1) else 0
def levB (zs lv : List Int) : Int := Go.Lib.maxOf (zs.map (lev1 lv))
/-- What the answers need of a path. -/
def Fine (x : S34) : Prop := 0 < x.f1.length ∧ x.f1.length ≤ 1000 ∧ x.f2.length ≤ 1000 ∧ ∀ z ∈ x.f1, 1 ≤ z
theorem level_l0 (zs lv : List Int) (hz : ∀ z ∈ zs, 1 ≤ z) (h0 : 0 < zs.length) (hb : zs.length ≤ 1000) (hl : lv.length ≤ 100000) : ∀ (d i : Nat), i + d = zs.length →
    Ev (fun k => avalanche_Level.l0 k lv ((zs.take i).map (lev1 lv)) zs (zs.length : Int) i) (levB zs lv) := by
  intro d
  induction d with
  | zero =>
    intro i hi
    rw [List.take_of_length_le (by omega)]
    refine Ev.step (f := fun _ => some (levB zs lv)) (fun k => ?_) (Ev.now _)
    simp only [avalanche_Level.l0]
    rw [if_neg (by omega)]
    unfold slices_Max_int_int.f
    rw [if_pos (by rw [List.length_map]; exact h0)]
    rfl
  | succ d ih =>
    intro i hi
    have hlt : i < zs.length := by omega
    have h1 := hz _ (List.getElem_mem hlt)
    refine Ev.step (f := fun k => avalanche_Level.l0 k lv ((zs.take (i + 1)).map (lev1 lv)) zs (zs.length : Int) ((i + 1 : Nat) : Int)) (fun k => ?_) (ih (i + 1) (by omega))
    simp only [avalanche_Level.l0]
    rw [if_pos (by omega), if_pos (by omega), if_pos (by omega), rd_nat _ _ hlt, List.take_succ_eq_append_getElem hlt, List.map_append]
    have hlen : ((zs.take i).map (lev1 lv)).length < 17592186044416 := by rw [List.length_map]; have := List.length_take_le i zs; omega
    by_cases c : zs[i] ≤ (lv.length : Int)
    · rw [if_pos c, wr_small (x := zs[i] - 1) (by omega) (by omega), if_pos (by omega), if_pos (by omega), if_pos hlen, wr1 (by omega)]
      simp only [List.map_cons, List.map_nil, lev1, if_pos c]
    · rw [if_neg c, if_pos hlen, wr1 (by omega)]
      simp only [List.map_cons, List.map_nil, lev1, if_neg c]
theorem level (x : S34) (lv : List Int) (hx : Fine x) (hl : lv.length ≤ 100000) : Ev (fun k => avalanche_Level.f k x.f0 x.f1 x.f2 x.f3 x.f4 x.f5 lv) (levB x.f1 lv) :=
  Ev.cg (level_l0 x.f1 lv hx.2.2.2 hx.1 hx.2.1 hl x.f1.length 0 (by omega)) (fun k => rfl)
def unstB (lv : List Int) (x : S34) : Bool :=
  if x.f4 ≥ x.f3 then true else if levB x.f1 lv = 3 then decide (x.f4 ≥ wrap64 (Int.tdiv x.f3 2)) else if levB x.f1 lv = 4 then decide (x.f4 ≥ wrap64 (Int.tdiv x.f3 4)) else decide (levB x.f1 lv > 4)
theorem unstable (x : S34) (lv : List Int) (hx : Fine x) (hl : lv.length ≤ 100000) : Ev (fun k => avalanche_Unstable.f k x.f0 x.f1 x.f2 x.f3 x.f4 x.f5 lv) (unstB lv x) := by
  refine Ev.cg (f := fun k => (avalanche_Level.f k x.f0 x.f1 x.f2 x.f3 x.f4 x.f5 lv).bind fun t142 => (if x.f4 ≥ x.f3 then (some true) else (if t142 = 3 then (if x.f4 ≥ (wrap64 (Int.tdiv x.f3 2)) then (some true) else (if t142 = 4 then (if x.f4 ≥ (wrap64 (Int.tdiv x.f3 4)) then (some true) else (some (decide (t142 > 4)))) else (some (decide (t142 > 4))))) else (if t142 = 4 then (if x.f4 ≥ (wrap64 (Int.tdiv x.f3 4)) then (some true) else (some (decide (t142 > 4)))) else (some (decide (t142 > 4))))))) ?_ (fun k => rfl)
  refine Ev.bind (level x lv hx hl) ?_
  unfold unstB
  generalize levB x.f1 lv = n
  refine ev_some' ?_
  by_cases h1 : x.f4 ≥ x.f3
  · rw [if_pos h1, if_pos h1]
  · rw [if_neg h1, if_neg h1]
    by_cases h2 : n = 3
    · subst h2
      rw [if_pos rfl, if_pos rfl]
      by_cases h3 : x.f4 ≥ wrap64 (Int.tdiv x.f3 2)
      · rw [if_pos h3, decide_eq_true h3]
      · rw [if_neg h3, decide_eq_false h3, if_neg (by decide), decide_eq_false (by decide)]
    · rw [if_neg h2, if_neg h2]
      by_cases h4 : n = 4
      · subst h4
        rw [if_pos rfl, if_pos rfl]
        by_cases h3 : x.f4 ≥ wrap64 (Int.tdiv x.f3 4)
        · rw [if_pos h3, decide_eq_true h3]
        · rw [if_neg h3, decide_eq_false h3, decide_eq_false (by decide)]
      · rw [if_neg h4, if_neg h4]
end Go.Proofs.Ytfjnpdgjigkbcaa.Pure
