/- slices.Clone at []int and at []api.Hours: the same list in new memory; at most a million elements. -/
import Derived.Test.YtbfflokkdahjjaaPAllx0
import Derived.Lib.SliceRun
namespace Go.Proofs.Ytbfflokkdahjjaa.PAll
open Go.RowKit Go.Proofs.YtbfflokkdahjjaaW.PrintWords Go.Proofs.YtbfflokkdahjjaaW.PrintLast Go.Proofs.YtbfflokkdahjjaaW.PrintMore
set_option linter.unusedVariables false
set_option linter.unusedSimpArgs false
theorem flat_len {s : Nat} {l : List (List Value)} (hl : ∀ c ∈ l, c.length = s) : l.flatten.length = l.length * s := by
  induction l with
  | nil => simp
  | cons c l ih =>
    have hc := hl c (by simp)
    rw [List.flatten_cons, List.length_append, ih (fun c hc => hl c (by simp [hc])), List.length_cons, hc, Nat.add_mul, Nat.one_mul, Nat.add_comm]
theorem flat_get {s : Nat} {l : List (List Value)} (hl : ∀ c ∈ l, c.length = s) (j i : Nat) (hj : j < l.length) (hi : i < s) : l.flatten[j * s + i]? = l[j][i]? := by
  induction l generalizing j with
  | nil => simp at hj
  | cons c l ih =>
    have hc := hl c (by simp)
    rw [List.flatten_cons]
    cases j with
    | zero => rw [List.getElem?_append_left (by omega)]; simp
    | succ j =>
      rw [List.getElem?_append_right (by rw [Nat.add_mul]; omega), show (j + 1) * s + i - c.length = j * s + i by rw [Nat.add_mul]; omega, ih (fun c hc => hl c (by simp [hc])) j (by simpa using hj)]
      simp
theorem parts_of {t : TypeId} {z : Value} {s b : Nat} (h : (Try.prog.info? t).map (fun i => (i.zero, i.size, i.bytes)) = some (some z, s, b)) : ∃ i, Try.prog.info? t = some i ∧ i.zero = some z ∧ i.size = s ∧ i.bytes = b := by
  obtain ⟨i, h1, h2⟩ := Option.map_eq_some_iff.1 h
  simp only [Prod.mk.injEq] at h2
  exact ⟨i, h1, h2⟩
theorem infoH : (Try.prog.info? 73).map (fun i => (i.zero, i.size, i.bytes)) = some (some (.agg #[(.int .i64 0), (.int .i64 0), (.int .i64 0)]), 3, 24) := by kernel_rfl
theorem infoI : (Try.prog.info? 3).map (fun i => (i.zero, i.size, i.bytes)) = some (some (.int .i64 0), 1, 8) := by kernel_rfl
theorem cloneI_some (a : Addr) (n c : Nat) (news : List Value) (w : World) (hl : news.length = n * 1) (hn : n ≤ 1000000) (hc : ∀ (j : Nat) (u : Value), news[j]? = some u → w.cell? (a.add j) = some u) (h1 : ∀ u ∈ news, u.oneCell' = true) :
    Calls Try.prog 29 #[.slice (some a) n c] w fun e w' => ∃ v', e = .returned v' ∧ w'.ownsRow w.heap.size 3 1 v' n news ∧ Below w.heap.size w w' := by
  have q22 : ∀ (w : World) (a : Option Addr) (n c n' c' : Nat), (binOp .eql 23 (.slice a n c) (.slice none n' c')).run Try.prog w = .ok (.bool a.isNone) w := fun w a n c n' c' => Lib.run_eql_slice_nil w _ _ a n c n' c' Try.underlying23
  have u22 : ∀ w, Sem.run Try.prog (underlying 23) w = .ok (TypeDesc.slice 3) w := run_underlying Try.underlying23
  obtain ⟨i0, hi, hz0, hz1, hz2⟩ := parts_of infoI
  have HC := Aside0.mk hc
  clear hc
  go_enter Try.func29, Try.ntmps29
  go_wp2_with (at_builtin; refine wpList_append_own _ rfl _ _ 23 rfl w.heap.size 3 i0 _ 1 8 Try.underlying23 hi hz0 hz1 hz2 rfl (by decide) _ _ _ rfl (World.ownsRow_made w #[] 0 (Nat.le_refl _) (Nat.zero_le _) (by simp)) a n c news rfl ?qc1 ?qc2 ?qc3 ?qc4 ?qc5 ?qc6 ?_)
  case qc1 => exact hl
  case qc2 =>
    intro j u hj
    exact Lib.cell?_alloc_some _ (HC.out j u hj)
  case qc3 => exact h1
  case qc4 => rw [Nat.zero_add]; simp only [maxLen]; omega
  case qc5 => rw [Nat.zero_add]; omega
  case qc6 => simp
  intro v' w1 hown hgrow hnil
  go_wp2
  go_ret
  exact ⟨v', rfl, by simpa using hown, ((Below.refl _ w).alloc (Nat.le_refl _) _).grown hgrow (by simp) (by intro k hk; simp [Value.ownBlock] at hk; omega)⟩
theorem cloneI_none (n c : Nat) (w : World) :
    Calls Try.prog 29 #[.slice none n c] w fun e w' => e = .returned (.slice none 0 0) ∧ w' = w := by
  have q22 : ∀ (w : World) (a : Option Addr) (n c n' c' : Nat), (binOp .eql 23 (.slice a n c) (.slice none n' c')).run Try.prog w = .ok (.bool a.isNone) w := fun w a n c n' c' => Lib.run_eql_slice_nil w _ _ a n c n' c' Try.underlying23
  go_enter Try.func29, Try.ntmps29
  go_wp2
  go_ret
  exact ⟨rfl, rfl⟩
def slices_Clone_int_int.f (l0 : List Int) : Option (List Int) := if l0.length ≤ 1000000 then some l0 else none
theorem slices_Clone_int_int.calls (A0 : Option Addr) (c0 : Nat) (l0 : List Int) (r : List Int) (w : World) (hr0 : Kd.C (Kd.int .i64) w A0 l0.length l0) (hc0 : l0.length ≤ c0) (h : slices_Clone_int_int.f l0 = some r) :
    Calls Try.prog 29 #[.slice A0 l0.length c0] w fun e w' => ∃ v0_ : Value, e = .returned (v0_) ∧ Kd.R (Kd.int .i64) 3 w' w.heap.size (fun _ => True) v0_ r ∧ Below w.heap.size w w' := by
  unfold slices_Clone_int_int.f at h
  split at h
  · rename_i hl
    injection h with h
    subst h
    obtain ⟨_, _, hq⟩ := Kd.reads_of_C (enc := Value.int .i64) (d := (0:Int)) (h1 := fun _ => rfl) hr0
    cases A0 with
    | none =>
      have h0 : l0 = [] := by
        rcases Nat.eq_zero_or_pos l0.length with h0 | h0
        · exact List.eq_nil_of_length_eq_zero h0
        · obtain ⟨ad, e, _⟩ := hq h0
          cases e
      subst h0
      refine (cloneI_none _ _ w).mono ?_
      rintro e w' ⟨rfl, rfl⟩
      exact ⟨_, rfl, Kd.R_nil _ _ _ _ _, Below.refl _ _⟩
    | some a =>
      refine (cloneI_some a l0.length c0 (l0.map (Value.int .i64)) w (by simp) hl (fun j u hu => ?_) (fun u hu => ?_)).mono ?_
      · rw [List.getElem?_map] at hu
        obtain ⟨x, hx, rfl⟩ := Option.map_eq_some_iff.1 hu
        have hj := (List.getElem?_eq_some_iff.1 hx).1
        obtain ⟨ad, e, hc⟩ := hq (by omega)
        cases e
        have := hc j hj
        rw [List.getD_eq_getElem?_getD, hx] at this
        exact this
      · obtain ⟨x, _, rfl⟩ := List.mem_map.1 hu
        rfl
      · rintro e w' ⟨v, rfl, ho, hb⟩
        exact ⟨v, rfl, Kd.R_of_own ho (fun _ _ => trivial), hb⟩
  · cases h
theorem cloneH_some (a : Addr) (n c : Nat) (news : List Value) (w : World) (hl : news.length = n * 3) (hn : n ≤ 1000000) (hc : ∀ (j : Nat) (u : Value), news[j]? = some u → w.cell? (a.add j) = some u) (h1 : ∀ u ∈ news, u.oneCell' = true) :
    Calls Try.prog 30 #[.slice (some a) n c] w fun e w' => ∃ v', e = .returned v' ∧ w'.ownsRow w.heap.size 73 3 v' n news ∧ Below w.heap.size w w' := by
  have q22 : ∀ (w : World) (a : Option Addr) (n c n' c' : Nat), (binOp .eql 36 (.slice a n c) (.slice none n' c')).run Try.prog w = .ok (.bool a.isNone) w := fun w a n c n' c' => Lib.run_eql_slice_nil w _ _ a n c n' c' Try.underlying36
  have u22 : ∀ w, Sem.run Try.prog (underlying 36) w = .ok (TypeDesc.slice 73) w := run_underlying Try.underlying36
  obtain ⟨i0, hi, hz0, hz1, hz2⟩ := parts_of infoH
  have HC := Aside0.mk hc
  clear hc
  go_enter Try.func30, Try.ntmps30
  go_wp2_with (at_builtin; refine wpList_append_own _ rfl _ _ 36 rfl w.heap.size 73 i0 _ 3 24 Try.underlying36 hi hz0 hz1 hz2 rfl (by decide) _ _ _ rfl (World.ownsRow_made w #[] 0 (Nat.le_refl _) (Nat.zero_le _) (by simp)) a n c news rfl ?qc1 ?qc2 ?qc3 ?qc4 ?qc5 ?qc6 ?_)
  case qc1 => exact hl
  case qc2 =>
    intro j u hj
    exact Lib.cell?_alloc_some _ (HC.out j u hj)
  case qc3 => exact h1
  case qc4 => rw [Nat.zero_add]; simp only [maxLen]; omega
  case qc5 => rw [Nat.zero_add]; omega
  case qc6 => simp
  intro v' w1 hown hgrow hnil
  go_wp2
  go_ret
  exact ⟨v', rfl, by simpa using hown, ((Below.refl _ w).alloc (Nat.le_refl _) _).grown hgrow (by simp) (by intro k hk; simp [Value.ownBlock] at hk; omega)⟩
theorem cloneH_none (n c : Nat) (w : World) :
    Calls Try.prog 30 #[.slice none n c] w fun e w' => e = .returned (.slice none 0 0) ∧ w' = w := by
  have q22 : ∀ (w : World) (a : Option Addr) (n c n' c' : Nat), (binOp .eql 36 (.slice a n c) (.slice none n' c')).run Try.prog w = .ok (.bool a.isNone) w := fun w a n c n' c' => Lib.run_eql_slice_nil w _ _ a n c n' c' Try.underlying36
  go_enter Try.func30, Try.ntmps30
  go_wp2
  go_ret
  exact ⟨rfl, rfl⟩
def hcells (x : S73) : List Value := [.int .i64 x.f0, .int .i64 x.f1, .int .i64 x.f2]
theorem hcells_len (l : List (S73)) : ∀ c ∈ l.map hcells, c.length = 3 := fun c hc => by
  obtain ⟨x, _, rfl⟩ := List.mem_map.1 hc
  rfl
def api_Hours.f (l0 : List (S73)) : Option (List (S73)) := if l0.length ≤ 1000000 then some l0 else none
theorem api_Hours.calls (A0 : Option Addr) (c0 : Nat) (l0 : List (S73)) (r : List (S73)) (w : World) (hr0 : Kd.C k73 w A0 l0.length l0) (hc0 : l0.length ≤ c0) (h : api_Hours.f l0 = some r) :
    Calls Try.prog 30 #[.slice A0 l0.length c0] w fun e w' => ∃ v0_ : Value, e = .returned (v0_) ∧ Kd.R k73 73 w' w.heap.size (fun _ => True) v0_ r ∧ Below w.heap.size w w' := by
  unfold api_Hours.f at h
  split at h
  · rename_i hl
    injection h with h
    subst h
    cases A0 with
    | none =>
      have h0 : l0 = [] := by
        rcases Nat.eq_zero_or_pos l0.length with h0 | h0
        · exact List.eq_nil_of_length_eq_zero h0
        · obtain ⟨ad, e, _⟩ := hr0.2.2 h0
          cases e
      subst h0
      refine (cloneH_none _ _ w).mono ?_
      rintro e w' ⟨rfl, rfl⟩
      exact ⟨_, rfl, Kd.R_nil _ _ _ _ _, Below.refl _ _⟩
    | some a =>
      have hfl := flat_len (hcells_len l0)
      rw [List.length_map] at hfl
      refine (cloneH_some a l0.length c0 (l0.map hcells).flatten w hfl hl (fun j u hu => ?_) (fun u hu => ?_)).mono ?_
      · have hj : j < l0.length * 3 := by rw [← hfl]; exact (List.getElem?_eq_some_iff.1 hu).1
        have hj3 : j / 3 < l0.length := by omega
        have e3 : j / 3 * 3 + j % 3 = j := by omega
        rw [← e3, flat_get (hcells_len l0) (j / 3) (j % 3) (by simpa using hj3) (by omega), List.getElem_map] at hu
        obtain ⟨ad, e, x0, x1, x2⟩ := at_T73 hr0 ((j / 3 : Nat) : Int) (by omega) (by omega)
        cases e
        have hg : rd_T73 l0 ((j / 3 : Nat) : Int) = l0[j / 3] := by
          unfold rd_T73
          rw [Int.toNat_natCast, List.getD_eq_getElem?_getD, List.getElem?_eq_getElem hj3]
          rfl
        rw [hg, Int.toNat_natCast] at x0 x1 x2
        rw [← add_field _ _ 1 (by omega)] at x1
        rw [← add_field _ _ 2 (by omega)] at x2
        rw [← e3]
        have hm : j % 3 = 0 ∨ j % 3 = 1 ∨ j % 3 = 2 := by omega
        unfold hcells at hu
        rcases hm with hm | hm | hm <;> rw [hm] at hu ⊢ <;> simp at hu <;> subst hu
        · exact x0
        · exact x1
        · exact x2
      · obtain ⟨c, hc, hu⟩ := List.mem_flatten.1 hu
        obtain ⟨x, _, rfl⟩ := List.mem_map.1 hc
        unfold hcells at hu
        simp at hu
        rcases hu with rfl | rfl | rfl <;> rfl
      · rintro e w' ⟨v, rfl, ho, hb⟩
        refine ⟨v, rfl, ⟨fun _ _ => trivial, (l0.map hcells).flatten, ho, hfl, fun j p hj => ?_⟩, hb⟩
        have hjl := (List.getElem?_eq_some_iff.1 hj).1
        have e : ((l0.map hcells).flatten.drop (j * 3)).take 3 = hcells p := by
          apply List.ext_getElem?
          intro i
          rw [List.getElem?_take, List.getElem?_drop]
          split
          · rename_i hi
            rw [flat_get (hcells_len l0) j i (by simpa using hjl) hi, List.getElem_map]
            rw [List.getElem?_eq_getElem hjl] at hj
            cases hj
            rfl
          · rw [List.getElem?_eq_none (by show 3 ≤ i; omega)]
        show k73.M _ _ _ p (((l0.map hcells).flatten.drop (j * 3)).take 3)
        rw [e]
        exact k73_mkM _ _ _ p
  · cases h
end Go.Proofs.Ytbfflokkdahjjaa.PAll
