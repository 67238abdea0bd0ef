/- codec.Put and media.Body: the bytes of a medium's contents, in new memory; bounds on the numbers. -/
import Derived.Test.YtbfflokkdahjjaaPAllB
import Derived.Lib.SliceRun
namespace Go.Proofs.Ytbfflokkdahjjaa.PAll
open Go.RowKit Go.Proofs.YtbfflokkdahjjaaW.PrintWords Go.Proofs.YtbfflokkdahjjaaW.PrintLast Go.Proofs.YtbfflokkdahjjaaW.PrintMore
set_option linter.unusedVariables false
set_option linter.unusedSimpArgs false
/-- A number's bytes: seven bits each, the lowest first. -/
def putN : Nat → Int → List Int
  | 0, _ => []
  | k + 1, n => if n ≥ 128 then Go.bits .or .u8 (n % 256) 128 :: putN k (n / 128) else [n % 256]
theorem putN_len : ∀ (k : Nat) (n : Int), (putN k n).length ≤ k
  | 0, _ => by simp [putN]
  | k + 1, n => by
    unfold putN
    split
    · have := putN_len k (n / 128)
      simp only [List.length_cons]
      omega
    · simp
theorem add_l0 : ∀ (k : Nat) (x : List Int) (n : Int), n < 128 ^ k → 0 < k → x.length + k < 140737488355328 → codec_add.l0 k x n = some (x ++ putN k n)
  | 0, _, _, _, h, _ => absurd h (by omega)
  | k + 1, x, n, hn, _, hx => by
    unfold codec_add.l0 putN
    by_cases h : n ≥ 128
    · rw [if_pos h, if_pos (by omega), if_pos h]
      have hk : 0 < k := by
        rcases Nat.eq_zero_or_pos k with rfl | hk
        · simp at hn; omega
        · exact hk
      rw [add_l0 k _ _ (by rw [Int.pow_succ] at hn; omega) hk (by simp; omega)]
      simp
    · rw [if_neg h, if_pos (by omega), if_neg h]
theorem add_f (l : List Int) (n : Int) (hn : n ≤ 1000000000) (hl : l.length ≤ 1000) : codec_add.f 10 l n = some (l ++ putN 10 (mx n 0)) := by
  unfold codec_add.f
  refine add_l0 10 l _ ?_ (by omega) (by omega)
  have : mx n 0 ≤ 1000000000 := by unfold mx; split <;> omega
  omega
theorem put_c (A : Option Addr) (c : Nat) (l : List Int) (n : Int) (w : World) (hC : Kd.C (Kd.int .u8) w A l.length l) (hl : l.length ≤ 1000) (hn : n ≤ 1000000000) :
    Calls Try.prog 42 #[.slice A l.length c, .int .i64 n] w fun e w' => ∃ v, e = .returned v ∧ Kd.R (Kd.int .u8) 5 w' w.heap.size (fun _ => True) v (l ++ putN 10 (mx n 0)) ∧ Below w.heap.size w w' := by
  have HC := Aside0.mk hC
  have HL := Aside0.mk hl
  have HN := Aside0.mk hn
  clear hC hl hn
  go_enter Try.func42, Try.ntmps42
  go_wp2_with (first
    | (at_builtin; (refine print_append_row (w0 := w) w.heap.size rfl (.const (.slice none 0 0)) (.tmp 5) 77 5 .u8 1 rfl Try.underlying77 info5 (by decide) (.slice none 0 0) [] l A l.length c rfl rfl ⟨rfl, .inl ⟨rfl, rfl⟩⟩ (Kd.reads_of_C HC.out) (Below.refl _ _) (Nat.le_refl _) (by have := HL.out; simp; omega) ?_; intro v4 w4 hown hb4 hg4 hat4; rw [List.nil_append] at hown; have HO := Aside0.mk hown; have HB4 := Aside0.mk hb4; clear hown hb4 hg4 hat4))
    | (go_at_call 51; (refine (codec_add.calls 10 (fun _ => True) _ l n _ w _ HB4.out (Kd.R_of_own HO.out (fun _ _ => trivial)) (add_f l n HN.out HL.out)).mono ?_; rintro e w5 ⟨v5, rfl, ho5, hb5, _⟩)))
  go_ret
  exact ⟨v5, rfl, Kd.R_mono ho5 (fun _ _ => trivial), hb5⟩
def bodyOf (l : List Int) : List Int := l.flatMap (fun n => putN 10 (mx n 0))
theorem bodyOf_len : ∀ l : List Int, (bodyOf l).length ≤ 10 * l.length
  | [] => by simp [bodyOf]
  | n :: l => by
    have := bodyOf_len l
    have h2 := putN_len 10 (mx n 0)
    unfold bodyOf at this ⊢
    rw [List.flatMap_cons, List.length_append, List.length_cons]
    omega
def media_Body.ok (a0 a1 a2 a3 a4 a5 a6 a7 : Int) : Prop := a0 ≤ 900000000 ∧ a1 ≤ 900000000 ∧ a2 ≤ 900000000 ∧ (-1 ≤ a3 ∧ a3 ≤ 900000000) ∧ a4 ≤ 900000000 ∧ (-1 ≤ a5 ∧ a5 ≤ 900000000) ∧ a6 ≤ 900000000 ∧ (-1 ≤ a7 ∧ a7 ≤ 900000000)
instance (a0 a1 a2 a3 a4 a5 a6 a7 : Int) : Decidable (media_Body.ok a0 a1 a2 a3 a4 a5 a6 a7) := by unfold media_Body.ok; infer_instance
def media_Body.f (a0 a1 a2 a3 a4 a5 a6 a7 a8 : Int) : Option (List Int) := if media_Body.ok a0 a1 a2 a3 a4 a5 a6 a7 then some (bodyOf [a0, a1, a2, a3 + 1, a4, a5 + 1, a6, a7 + 1]) else none
theorem body_take (l : List Int) (k : Nat) (h : k < l.length) : bodyOf (l.take (k + 1)) = bodyOf (l.take k) ++ putN 10 (mx l[k] 0) := by
  unfold bodyOf
  rw [List.take_succ_eq_append_getElem h, List.flatMap_append]
  simp
theorem nums_at (a0 a1 a2 a3 a4 a5 a6 a7 : Int) (h : media_Body.ok a0 a1 a2 a3 a4 a5 a6 a7) (k : Nat) (hk : k < 8) : ∃ x, x ≤ 1000000000 ∧
    (∀ W, (Instr.index 85 (.agg #[Value.int .i64 a0, Value.int .i64 a1, Value.int .i64 a2, Value.int .i64 (a3 + 1), Value.int .i64 a4, Value.int .i64 (a5 + 1), Value.int .i64 a6, Value.int .i64 (a7 + 1)]) (.int .i64 (k : Int))).run Try.prog W = .ok (.int .i64 x) W) ∧
    bodyOf ([a0, a1, a2, a3 + 1, a4, a5 + 1, a6, a7 + 1].take (k + 1)) = bodyOf ([a0, a1, a2, a3 + 1, a4, a5 + 1, a6, a7 + 1].take k) ++ putN 10 (mx x 0) := by
  unfold media_Body.ok at h
  have hk8 : k = 0 ∨ k = 1 ∨ k = 2 ∨ k = 3 ∨ k = 4 ∨ k = 5 ∨ k = 6 ∨ k = 7 := by omega
  rcases hk8 with rfl | rfl | rfl | rfl | rfl | rfl | rfl | rfl
  · exact ⟨a0, by omega, fun W => by simp [Instr.index, run_underlying Try.underlying85, asIntOf, go_sem], body_take _ 0 (by simp)⟩
  · exact ⟨a1, by omega, fun W => by simp [Instr.index, run_underlying Try.underlying85, asIntOf, go_sem], body_take _ 1 (by simp)⟩
  · exact ⟨a2, by omega, fun W => by simp [Instr.index, run_underlying Try.underlying85, asIntOf, go_sem], body_take _ 2 (by simp)⟩
  · exact ⟨a3 + 1, by omega, fun W => by simp [Instr.index, run_underlying Try.underlying85, asIntOf, go_sem], body_take _ 3 (by simp)⟩
  · exact ⟨a4, by omega, fun W => by simp [Instr.index, run_underlying Try.underlying85, asIntOf, go_sem], body_take _ 4 (by simp)⟩
  · exact ⟨a5 + 1, by omega, fun W => by simp [Instr.index, run_underlying Try.underlying85, asIntOf, go_sem], body_take _ 5 (by simp)⟩
  · exact ⟨a6, by omega, fun W => by simp [Instr.index, run_underlying Try.underlying85, asIntOf, go_sem], body_take _ 6 (by simp)⟩
  · exact ⟨a7 + 1, by omega, fun W => by simp [Instr.index, run_underlying Try.underlying85, asIntOf, go_sem], body_take _ 7 (by simp)⟩
set_option maxHeartbeats 1000000 in
set_option maxRecDepth 100000 in
theorem media_Body.calls (a0_0 : Int) (a0_1 : Int) (a0_2 : Int) (a0_3 : Int) (a0_4 : Int) (a0_5 : Int) (a0_6 : Int) (a0_7 : Int) (a0_8 : Int) (r : List Int) (w : World) (h : media_Body.f a0_0 a0_1 a0_2 a0_3 a0_4 a0_5 a0_6 a0_7 a0_8 = some r) :
    Calls Try.prog 34 #[.agg #[.int .i64 a0_0, .int .i64 a0_1, .int .i64 a0_2, .int .i64 a0_3, .int .i64 a0_4, .int .i64 a0_5, .int .i64 a0_6, .int .i64 a0_7, .int .u64 a0_8]] w fun e w' => ∃ v0_ : Value, e = .returned (v0_) ∧ Kd.R (Kd.int .u8) 5 w' w.heap.size (fun _ => True) v0_ r ∧ Below w.heap.size w w' := by
  unfold media_Body.f at h
  split at h
  · rename_i hok
    injection h with h
    subst h
    have e3 : wrap64 (a0_3 + 1) = a0_3 + 1 := by unfold media_Body.ok at hok; unfold wrap64; omega
    have e5 : wrap64 (a0_5 + 1) = a0_5 + 1 := by unfold media_Body.ok at hok; unfold wrap64; omega
    have e7 : wrap64 (a0_7 + 1) = a0_7 + 1 := by unfold media_Body.ok at hok; unfold wrap64; omega
    have HOK := Aside0.mk hok
    have HE := Aside0.mk (And.intro e3 (And.intro e5 e7))
    obtain ⟨nums, hnums⟩ : ∃ l : List Int, l = [a0_0, a0_1, a0_2, a0_3 + 1, a0_4, a0_5 + 1, a0_6, a0_7 + 1] := ⟨_, rfl⟩
    have hlen : nums.length = 8 := by rw [hnums]; rfl
    have HNUM := Aside0.mk hnums
    rw [← hnums]
    have hu := Try.underlying30
    clear hok e3 e5 e7 hnums
    go_enter Try.func34, Try.ntmps34
    go_wp2_with (go_at_call 41; refine (media_numbers.calls a0_0 a0_1 a0_2 a0_3 a0_4 a0_5 a0_6 a0_7 a0_8 _ _ _ _ _ _ _ _ _ rfl).mono ?_; rintro e w1 ⟨rfl, hb1⟩; simp only [HE.out.1, HE.out.2.1, HE.out.2.2]; have HB1 := Aside0.mk (((Below.refl _ w).alloc (Nat.le_refl _) _).trans (hb1.mono (by simp))); clear hb1)
    go_loopg [3, 5, 8] 8 (fun gg s3 _ s8 wr => ∃ k : Nat, k ≤ 8 ∧ 8 - k ≤ gg ∧ s8 = .int .i64 (k : Int) ∧ Aside0 (Kd.R (Kd.int .u8) 5 wr w.heap.size (fun _ => True) s3 (bodyOf (nums.take k))) ∧ Aside0 (Below w.heap.size w wr))
    case atStart => exact ⟨0, by omega, by omega, rfl, ⟨Kd.R_nil _ _ _ _ _⟩, HB1⟩
    case round =>
      obtain ⟨k, hk, hg, rfl, HR, HB⟩ := hrel
      by_cases hlt : k < 8
      · have hltz : (k : Int) < 8 := by omega
        have hbl := bodyOf_len (nums.take k)
        rw [List.length_take] at hbl
        obtain ⟨row, hrow⟩ : ∃ row, row = bodyOf (nums.take k) := ⟨_, rfl⟩
        rw [← hrow] at HR hbl
        obtain ⟨E, cE, hE⟩ := Kd.R_slice HR.out
        subst hE
        obtain ⟨x, hxn, hcell, hbx⟩ := nums_at a0_0 a0_1 a0_2 a0_3 a0_4 a0_5 a0_6 a0_7 HOK.out k hlt
        rw [← HNUM.out] at hbx
        have hbt := hbx
        rw [← hrow] at hbt
        have HBT := Aside0.mk hbt
        have HBL := Aside0.mk hbl
        have HXN := Aside0.mk hxn
        clear hbt hbx hbl hxn hrow
        go_wp2_with (first
          | (go_at_call 42; (refine (put_c E cE row x _ (Kd.R_reads' HR.out).2.2 (by have := HBL.out; omega) HXN.out).mono ?_; rintro e w5 ⟨v5, rfl, ho5, hb5⟩; have HO5 := Aside0.mk ho5; have HB5 := Aside0.mk (HB.out.trans (hb5.mono HB.out.size)); clear ho5 hb5)))
        go_roundg (8 - (k + 1))
        case measure => omega
        case rel => exact ⟨k + 1, by omega, by omega, by go_num, ⟨by rw [HBT.out]; exact Kd.R_lower HO5.out HB.out.size⟩, HB5⟩
      · have hltz : ¬ (k : Int) < 8 := by omega
        obtain rfl : k = 8 := by omega
        go_wp2
        go_ret
        have hz := HNUM.out
        rw [List.take_of_length_le (by rw [hz]; simp)] at HR
        exact ⟨_, rfl, HR.out, HB.out⟩
  · cases h
end Go.Proofs.Ytbfflokkdahjjaa.PAll
