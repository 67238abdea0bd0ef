/- A medium's tag, in plain lists: what Sign writes and Check asks. -/
import Derived.Test.YtbfflokkdahjjaaPAllx7
import Derived.Test.YtbfflokkdahjjaaPAllx8
import Derived.Test.YtbfflokkdahjjaaUBase
namespace Go.Proofs.Ytbfflokkdahjjaa.Pure
open Go.RowKit Go.Proofs.Ytbfflokkdahjjaa.PAll Go.Proofs.YtbfflokkdahjjaaW.PrintWords Go.Proofs.YtbfflokkdahjjaaW.PrintLast Go.Proofs.YtbfflokkdahjjaaW.PrintMore
set_option linter.unusedVariables false
set_option linter.unusedSimpArgs false
def mixI (x : Int) : Int := (seal_Mix.f x).getD 0
theorem mix_eq (x : Int) : seal_Mix.f x = some (mixI x) := rfl
def blkF : List Int → Nat → Int → Int
  | [], _, a => a
  | x :: r, i, a => blkF r (i + 1) (Go.bits .or .u64 a (shl .u64 (IntKind.u64.wrap x) (8 * (i : Int))))
def tagL : Nat → List Int → Int → Int → Int
  | 0, _, h, n => mixI (Go.bits .xor .u64 h n)
  | _ + 1, [], h, n => mixI (Go.bits .xor .u64 h n)
  | d + 1, x :: r, h, n => tagL d ((x :: r).drop 8) (mixI (Go.bits .xor .u64 h (blkF ((x :: r).take 8) 0 0))) n
def tagF (key : Int) (l : List Int) : Int := tagL l.length l (mixI key) (IntKind.u64.wrap (l.length : Int))
theorem tag_l1 (x1 : List Int) (x5 x6 x7 : Int) (y : List Int) (hy : y.length ≤ 8) (R : Int) (hx : 0 ≤ x7 ∧ x7 ≤ (x1.length : Int))
    (hr : ∀ h, h = mixI (Go.bits .xor .u64 x5 (blkF y 0 0)) → Ev (fun k => seal_Tag.l0 k (x1.drop x7.toNat) h x6) R) :
    ∀ (d i : Nat), i + d = y.length → ∀ a, blkF (y.drop i) i a = blkF y 0 0 → Ev (fun k => seal_Tag.l1 k x1 x5 x6 x7 a y (y.length : Int) i) R := by
  intro d
  induction d with
  | zero =>
    intro i hi a ha
    rw [List.drop_of_length_le (by omega)] at ha
    simp only [blkF] at ha
    refine Ev.step (f := fun k => seal_Tag.l0 k (x1.drop x7.toNat) (mixI (Go.bits .xor .u64 x5 a)) x6) (fun k => ?_) (hr _ (by rw [ha]))
    simp only [seal_Tag.l1]
    rw [if_neg (by omega), mix_eq]
    simp only [Option.bind_some]
    rw [if_pos hx.1, if_pos hx.2]
  | succ d ih =>
    intro i hi a ha
    have h1 : i < y.length := by omega
    rw [List.drop_eq_getElem_cons h1] at ha
    simp only [blkF] at ha
    have hw : wrap64 (8 * (i : Int)) = 8 * (i : Int) := wr_small (by omega) (by omega)
    refine Ev.step (f := fun k => seal_Tag.l1 k x1 x5 x6 x7 (Go.bits .or .u64 a (shl .u64 (IntKind.u64.wrap y[i]) (8 * (i : Int)))) y (y.length : Int) ((i + 1 : Nat) : Int)) (fun k => ?_) (ih (i + 1) (by omega) _ ha)
    simp only [seal_Tag.l1]
    rw [if_pos (by omega), if_pos (by omega), if_pos (by omega), hw, if_pos (by omega), rd_nat _ _ h1, wr1 (by omega)]
theorem tag_l0 (n : Int) : ∀ (d : Nat) (l : List Int), l.length ≤ d → l.length ≤ 1000000 → ∀ h, Ev (fun k => seal_Tag.l0 k l h n) (tagL d l h n) := by
  intro d
  induction d with
  | zero =>
    intro l hl _ h
    obtain rfl := List.eq_nil_of_length_eq_zero (by omega : l.length = 0)
    exact Ev.step (f := fun _ => some (mixI (Go.bits .xor .u64 h n))) (fun k => by simp only [seal_Tag.l0]; rw [if_neg (by simp), mix_eq]; rfl) (Ev.now _)
  | succ d ih =>
    intro l hl hb h
    match l, hl, hb with
    | [], _, _ => exact Ev.step (f := fun _ => some (mixI (Go.bits .xor .u64 h n))) (fun k => by simp only [seal_Tag.l0]; rw [if_neg (by simp), mix_eq]; rfl) (Ev.now _)
    | x :: r, hl, hb =>
      have hpos : ((x :: r).length : Int) > 0 := by simp only [List.length_cons]; omega
      have hm : 0 ≤ mn 8 ((x :: r).length : Int) ∧ mn 8 ((x :: r).length : Int) ≤ ((x :: r).length : Int) ∧ (mn 8 ((x :: r).length : Int)).toNat = min 8 (x :: r).length := by
        unfold mn; split <;> omega
      have ht : (x :: r).take (mn 8 ((x :: r).length : Int)).toNat = (x :: r).take 8 := by rw [hm.2.2, List.take_eq_take_iff]; omega
      have hd : (x :: r).drop (mn 8 ((x :: r).length : Int)).toNat = (x :: r).drop 8 := by
        rw [hm.2.2]
        rcases Nat.le_total 8 (x :: r).length with h8 | h8
        · rw [Nat.min_eq_left h8]
        · rw [Nat.min_eq_right h8, List.drop_length, List.drop_of_length_le h8]
      have key := tag_l1 (x :: r) h n (mn 8 ((x :: r).length : Int)) ((x :: r).take 8) (by rw [List.length_take]; omega) (tagL (d + 1) (x :: r) h n) ⟨hm.1, hm.2.1⟩
        (fun h2 e => by
          subst e
          rw [hd]
          exact ih ((x :: r).drop 8) (by rw [List.length_drop]; simp only [List.length_cons] at hl ⊢; omega) (by rw [List.length_drop]; omega) _)
        ((x :: r).take 8).length 0 (by omega) 0 (by rw [List.drop_zero])
      refine Ev.step (f := fun k => seal_Tag.l1 k (x :: r) h n (mn 8 ((x :: r).length : Int)) 0 ((x :: r).take 8) (((x :: r).take 8).length : Int) ((0 : Nat) : Int)) (fun k => ?_) key
      simp only [seal_Tag.l0]
      rw [if_pos hpos, if_pos hm.1, if_pos hm.2.1, ht]
      rfl
theorem tag (key : Int) (l : List Int) (hb : l.length ≤ 1000000) : Ev (fun k => seal_Tag.f k key l) (tagF key l) := by
  refine Ev.cg (tag_l0 (IntKind.u64.wrap (l.length : Int)) l.length l (Nat.le_refl _) hb (mixI key)) (fun k => ?_)
  unfold seal_Tag.f
  rw [mix_eq]
  rfl
def keyF (master id : Int) : Int := mixI (IntKind.u64.wrap (master + (IntKind.u64.wrap ((IntKind.u64.wrap id) * 11400714819323198485))))
/-- The tag of a medium with these contents. -/
def signT (key a0 a1 a2 a3 a4 a5 a6 a7 : Int) : Int := tagF (keyF key a0) (bodyOf [a0, a1, a2, a3 + 1, a4, a5 + 1, a6, a7 + 1])
theorem sign (key a0 a1 a2 a3 a4 a5 a6 a7 a8 : Int) (h : media_Body.ok a0 a1 a2 a3 a4 a5 a6 a7) : Ev (fun k => media_Sign.f k key a0 a1 a2 a3 a4 a5 a6 a7 a8) (a0, a1, a2, a3, a4, a5, a6, a7, signT key a0 a1 a2 a3 a4 a5 a6 a7) := by
  have hl := bodyOf_len [a0, a1, a2, a3 + 1, a4, a5 + 1, a6, a7 + 1]
  have hl2 : (bodyOf [a0, a1, a2, a3 + 1, a4, a5 + 1, a6, a7 + 1]).length ≤ 1000000 := Nat.le_trans hl (by simp)
  have hb : media_Body.f a0 a1 a2 a3 a4 a5 a6 a7 a8 = some (bodyOf [a0, a1, a2, a3 + 1, a4, a5 + 1, a6, a7 + 1]) := if_pos h
  have hk : seal_Key.f key a0 = some (keyF key a0) := by unfold seal_Key.f; rw [mix_eq]; rfl
  unfold signT
  generalize keyF key a0 = kk at hk ⊢
  generalize bodyOf [a0, a1, a2, a3 + 1, a4, a5 + 1, a6, a7 + 1] = b at hb hl2 ⊢
  clear hl h
  refine Ev.cg (f := fun k => (seal_Tag.f k kk b).bind fun t155 => (some (a0, a1, a2, a3, a4, a5, a6, a7, t155))) (Ev.bind (f := fun _ t => some (a0, a1, a2, a3, a4, a5, a6, a7, t)) (tag _ _ hl2) (Ev.now _)) (fun k => ?_)
  unfold media_Sign.f
  rw [hk, hb]
  rfl
theorem range_ok {a0 a1 a2 a3 a4 a5 a6 a7 : Int} (h : mrange a0 a1 a2 a3 a4 a5 a6 a7) : media_Body.ok a0 a1 a2 a3 a4 a5 a6 a7 := by
  unfold mrange at h
  unfold media_Body.ok
  omega
theorem mright_zero {a0 a1 a2 a3 a4 a5 a6 a7 : Int} : mright a0 a1 a2 a3 a4 a5 a6 a7 = 0 ↔ mrange a0 a1 a2 a3 a4 a5 a6 a7 ∧ ¬ mstate a3 a5 a6 a7 := by
  unfold mright
  by_cases h : mrange a0 a1 a2 a3 a4 a5 a6 a7
  · rw [if_pos h]
    by_cases h2 : mstate a3 a5 a6 a7
    · rw [if_pos h2]; simp [h2]
    · rw [if_neg h2]; simp [h, h2]
  · rw [if_neg h]; simp [h]
def checkF (key a0 a1 a2 a3 a4 a5 a6 a7 a8 : Int) : Bool := decide (mright a0 a1 a2 a3 a4 a5 a6 a7 = 0) && decide (signT key a0 a1 a2 a3 a4 a5 a6 a7 = a8)
theorem check (key a0 a1 a2 a3 a4 a5 a6 a7 a8 : Int) : Ev (fun k => media_Check.f k key a0 a1 a2 a3 a4 a5 a6 a7 a8) (checkF key a0 a1 a2 a3 a4 a5 a6 a7 a8) := by
  unfold checkF
  by_cases h : mright a0 a1 a2 a3 a4 a5 a6 a7 = 0
  · have hs := sign key a0 a1 a2 a3 a4 a5 a6 a7 a8 (range_ok (mright_zero.1 h).1)
    refine Ev.cg (f := fun k => (media_Sign.f k key a0 a1 a2 a3 a4 a5 a6 a7 a8).bind fun bt158 => (some (bt158.1 == a0 && (bt158.2.1 == a1 && (bt158.2.2.1 == a2 && (bt158.2.2.2.1 == a3 && (bt158.2.2.2.2.1 == a4 && (bt158.2.2.2.2.2.1 == a5 && (bt158.2.2.2.2.2.2.1 == a6 && (bt158.2.2.2.2.2.2.2.1 == a7 && (bt158.2.2.2.2.2.2.2.2 == a8))))))))))) (Ev.bind (f := fun _ bt158 => (some (bt158.1 == a0 && (bt158.2.1 == a1 && (bt158.2.2.1 == a2 && (bt158.2.2.2.1 == a3 && (bt158.2.2.2.2.1 == a4 && (bt158.2.2.2.2.2.1 == a5 && (bt158.2.2.2.2.2.2.1 == a6 && (bt158.2.2.2.2.2.2.2.1 == a7 && (bt158.2.2.2.2.2.2.2.2 == a8))))))))))) hs (ev_some ?_)) (fun k => ?_)
    · simp [h, Bool.beq_eq_decide_eq]
    · unfold media_Check.f media_Right.f
      simp only [Option.bind_some]
      rw [if_pos h]
  · refine Ev.cg (f := fun _ => some false) (ev_some (by simp [h])) (fun k => ?_)
    unfold media_Check.f media_Right.f
    simp only [Option.bind_some]
    rw [if_neg h]
end Go.Proofs.Ytbfflokkdahjjaa.Pure
