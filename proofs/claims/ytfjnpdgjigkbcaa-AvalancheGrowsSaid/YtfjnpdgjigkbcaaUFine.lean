/- Zones and Lifts of right paths; that a level which grows makes no path stable. -/
import Derived.Test.YtfjnpdgjigkbcaaUSame
import Derived.Test.YtfjnpdgjigkbcaaGZones
import Derived.Test.YtfjnpdgjigkbcaaGAlive
import Derived.OpenShut
namespace Go.Proofs.Ytfjnpdgjigkbcaa.Pure
open Go.RowKit Go.Proofs.Ytfjnpdgjigkbcaa.PAll Go.Proofs.YtfjnpdgjigkbcaaW.PrintWords Go.Proofs.YtfjnpdgjigkbcaaW.PrintLast Go.Proofs.YtfjnpdgjigkbcaaW.PrintMore
set_option linter.unusedVariables false
set_option linter.unusedSimpArgs false
theorem sset_len_le (l : List Int) : (Help.sset l).length ≤ l.length := by
  induction l with
  | nil => simp [Help.sset]
  | cons x l ih =>
    have h : ∀ y (m : List Int), (Help.insU y m).length ≤ m.length + 1 := by
      intro y m
      induction m with
      | nil => simp [Help.insU]
      | cons z m ihm =>
        unfold Help.insU
        split
        · simp
        · split
          · simp
          · simp only [List.length_cons]; omega
    show (Help.insU x (Help.sset l)).length ≤ _
    have := h x (Help.sset l)
    simp only [List.length_cons]; omega
/-- What the lists' functions ask. -/
def FineL (l : List S34) : Prop := l.length ≤ 1000 ∧ ∀ x ∈ l, Fine x ∧ 4 ≤ x.f3 ∧ x.f3 ≤ 100000
theorem fine_of {l : List S34} (hs : smallB l = true) (hr : Right l) : FineL l := by
  refine ⟨by have := (small_all hs).1; omega, fun x hx => ⟨⟨(hr.2.1 x hx).2.1, by have := (small_all hs).2 x hx; omega, by have := (small_all hs).2 x hx; omega, fun z hz => ?_⟩, ?_⟩⟩
  · exact ((up_mem 32 x.f1 0 (hr.2.1 x hx).2.2.1).1 z hz).1
  · have := right_nums hr hx; omega
theorem fine_all {l : List S34} (hf : FineL l) {lv : List Int} (hl : lv.length ≤ 100000) : FineAll l lv := ⟨hf.1, hl, fun x hx => (hf.2 x hx).1⟩
theorem zones_eq {l : List S34} (hf : FineL l) {lv : List Int} (hl : lv.length ≤ 100000) : avalanche_Zones.f l lv = some (Help.sset (threatB true l lv)) := by
  unfold avalanche_Zones.f
  rw [if_pos (fine_all hf hl)]
theorem lifts_eq {l : List S34} (hf : FineL l) {lv : List Int} (hl : lv.length ≤ 100000) : avalanche_Lifts.f l lv = some (Help.sset (threatB false l lv)) := by
  unfold avalanche_Lifts.f
  rw [if_pos (fine_all hf hl)]
theorem thr_all (b : Bool) (l : List S34) (lv : List Int) (hf : FineL l) : (Help.sset (threatB b l lv)).length ≤ 1000000 := by
  have h1 := sset_len_le (threatB b l lv)
  have h2 := thr_len b l lv (fun x hx => ⟨(hf.2 x hx).1.2.1, (hf.2 x hx).1.2.2.1⟩)
  exact Nat.le_trans h1 (Nat.le_trans h2 (Nat.mul_le_mul_right 1000 hf.1))
theorem foldl_max_mono (f g : Int → Int) : ∀ (zs : List Int) (a b : Int), a ≤ b → (∀ z ∈ zs, f z ≤ g z) → (zs.map f).foldl max a ≤ (zs.map g).foldl max b
  | [], a, b, h, _ => h
  | z :: zs, a, b, h, hz => by
    simp only [List.map_cons, List.foldl_cons]
    refine foldl_max_mono f g zs _ _ ?_ (fun y hy => hz y (by simp [hy]))
    have := hz z (by simp)
    omega
theorem lev_mono (zs lv hv : List Int) (h : ∀ z ∈ zs, lev1 lv z ≤ lev1 hv z) : levB zs lv ≤ levB zs hv := by
  unfold levB Go.Lib.maxOf
  refine foldl_max_mono _ _ zs _ _ ?_ h
  cases zs with
  | nil => exact Int.le_refl _
  | cons z zs => exact h z (by simp)
theorem unst_mono (x y : S34) (lv hv : List Int) (h3 : y.f3 = x.f3) (h4 : x.f4 ≤ y.f4) (hl : levB x.f1 lv ≤ levB y.f1 hv) (hn : 4 ≤ x.f3 ∧ x.f3 ≤ 100000) (h : unstB lv x = true) : unstB hv y = true := by
  have e2 : wrap64 (Int.tdiv x.f3 2) = x.f3 / 2 := by rw [Int.tdiv_eq_ediv_of_nonneg (by omega), wr_small (by omega) (by omega)]
  have e4 : wrap64 (Int.tdiv x.f3 4) = x.f3 / 4 := by rw [Int.tdiv_eq_ediv_of_nonneg (by omega), wr_small (by omega) (by omega)]
  unfold unstB at h ⊢
  rw [e2, e4] at h
  rw [h3, e2, e4]
  generalize levB x.f1 lv = n at *
  generalize levB y.f1 hv = m at *
  by_cases a : y.f4 ≥ x.f3
  · rw [if_pos a]
  · rw [if_neg a]
    rw [if_neg (by omega)] at h
    by_cases n3 : n = 3
    · rw [if_pos n3] at h
      have h := of_decide_eq_true h
      by_cases m3 : m = 3
      · rw [if_pos m3]; exact decide_eq_true (by omega)
      · rw [if_neg m3]
        by_cases m4 : m = 4
        · rw [if_pos m4]; exact decide_eq_true (by omega)
        · rw [if_neg m4]; exact decide_eq_true (by omega)
    · rw [if_neg n3] at h
      by_cases n4 : n = 4
      · rw [if_pos n4] at h
        have h := of_decide_eq_true h
        rw [if_neg (by omega)]
        by_cases m4 : m = 4
        · rw [if_pos m4]; exact decide_eq_true (by omega)
        · rw [if_neg m4]; exact decide_eq_true (by omega)
      · rw [if_neg n4] at h
        have h := of_decide_eq_true h
        rw [if_neg (by omega), if_neg (by omega)]
        exact decide_eq_true (by omega)
end Go.Proofs.Ytfjnpdgjigkbcaa.Pure
