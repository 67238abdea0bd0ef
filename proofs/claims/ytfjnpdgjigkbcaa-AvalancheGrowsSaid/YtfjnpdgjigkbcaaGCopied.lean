/- avalanche.copied returns the same paths in new memory, their zones and lifts as well. Condition: at most 1000 paths, with at most 1000 zones and lifts each. -/
import Derived.Test.YtfjnpdgjigkbcaaPAllx0
import Derived.Test.YtfjnpdgjigkbcaaGBase
import Derived.Test.YtfjnpdgjigkbcaaShelf
namespace Go.Proofs.Ytfjnpdgjigkbcaa.PAll
open Go.RowKit Go.Proofs.YtfjnpdgjigkbcaaW.PrintWords Go.Proofs.YtfjnpdgjigkbcaaW.PrintLast Go.Proofs.YtfjnpdgjigkbcaaW.PrintMore
set_option linter.unusedVariables false
set_option linter.unusedSimpArgs false

theorem clone_ints (A0 : Option Addr) (c0 : Nat) (l0 : List Int) (w : World) (hr0 : Kd.C (Kd.int .i64) w A0 l0.length l0) (hl : l0.length < 17592186044416) :
    Calls Try.prog 46 #[.slice A0 l0.length c0] w fun e w' => ∃ v0_ : Value, e = .returned (v0_) ∧ Kd.R (Kd.int .i64) 3 w' w.heap.size (fun _ => True) v0_ l0 ∧ Below w.heap.size w w' := by
  cases A0 with
  | none =>
    obtain rfl := Help.int_nil hr0 rfl
    refine (Try.slices_Clone_int_nil _ _ w).mono ?_
    rintro e w' ⟨rfl, rfl⟩
    exact ⟨_, rfl, Kd.R_nil _ _ _ _ _, Below.refl _ _⟩
  | some a =>
    rcases Nat.eq_zero_or_pos l0.length with h0 | h0
    · obtain rfl := List.eq_nil_of_length_eq_zero h0
      refine (Try.slices_Clone_int_zero a _ w).mono ?_
      rintro e w' ⟨v, rfl, ho, _, hb⟩
      exact ⟨v, rfl, Help.int_own ho, hb⟩
    · obtain ⟨b, off, ha, hc⟩ := Help.int_cells hr0 h0
      cases ha
      refine (Try.slices_Clone_int b off l0.length c0 l0 w (Nat.le_refl _) (by omega) hc).mono ?_
      rintro e w' ⟨v, rfl, ho, _, hb⟩
      rw [List.take_length] at ho
      exact ⟨v, rfl, Help.int_own ho, hb⟩

/-- The cells of an element that is read, whatever grows later. -/
def Q (w0 : World) (x : S34) (cs : List Value) : Prop := ∀ W, Below w0.heap.size w0 W → k34.K W x cs
/-- An element of the copy: its own (true), or still the argument's cells (false). -/
def half (w0 : World) : Kd (S34 × Bool) where
  sz := 6
  E := k34.E
  K := fun w x cs => (x.2 = true → k34.K w x.1 cs) ∧ (x.2 = false → Q w0 x.1 cs)
  M := fun w base ok x cs => (x.2 = true → k34.M w base ok x.1 cs) ∧ (x.2 = false → Q w0 x.1 cs)
  K_len := fun {w x cs} h => by
    cases hx : x.2 with
    | true => exact k34.K_len (h.1 hx)
    | false => exact k34.K_len (h.2 hx w0 (Below.refl _ _))
  K_one := fun {w x cs} h => by
    cases hx : x.2 with
    | true => exact k34.K_one (h.1 hx)
    | false => exact k34.K_one (h.2 hx w0 (Below.refl _ _))
  K_below := fun hb h => ⟨fun hx => k34.K_below hb (h.1 hx), h.2⟩
  K_of_M := fun h => ⟨fun hx => k34.K_of_M (h.1 hx), h.2⟩
  M_mono := fun hok h => ⟨fun hx => k34.M_mono hok (h.1 hx), h.2⟩
  M_bound := fun h => ⟨fun hx => k34.M_bound (h.1 hx), h.2⟩
  M_move := fun hm h => ⟨fun hx => k34.M_move hm (h.1 hx), h.2⟩
  M_lower := fun hb h => ⟨fun hx => k34.M_lower hb (h.1 hx), h.2⟩

set_option maxHeartbeats 1000000 in
theorem clone_some (a : Addr) (n c : Nat) (news : List Value) (w : World) (hl : news.length = n * 6) (hn : n ≤ 1000) (hc : ∀ (j : Nat) (u : Value), news[j]? = some u → w.cell? (a.add j) = some u) (h1 : ∀ u ∈ news, u.oneCell' = true) :
    Calls Try.prog 45 #[.slice (some a) n c] w fun e w' => ∃ v', e = .returned v' ∧ w'.ownsRow w.heap.size 34 6 v' n news ∧ Below w.heap.size w w' := by
  have q22 : ∀ (w : World) (a : Option Addr) (n c n' c' : Nat), (binOp .eql 22 (.slice a n c) (.slice none n' c')).run Try.prog w = .ok (.bool a.isNone) w := fun w a n c n' c' => Lib.run_eql_slice_nil w _ _ a n c n' c' Try.underlying22
  have u22 : ∀ w, Sem.run Try.prog (underlying 22) w = .ok (TypeDesc.slice 34) w := run_underlying Try.underlying22
  obtain ⟨i0, hi, hz0, hz1, hz2⟩ := info_parts info34
  have HC := Aside0.mk hc
  clear hc
  go_enter Try.func45, Try.ntmps45
  go_wp2_with (at_builtin; refine wpList_append_own _ rfl _ _ 22 rfl w.heap.size 34 i0 _ 6 80 Try.underlying22 hi hz0 hz1 hz2 rfl (by decide) _ _ _ rfl (World.ownsRow_made w #[] 0 (Nat.le_refl _) (Nat.zero_le _) (by simp)) a n c news rfl ?qc1 ?qc2 ?qc3 ?qc4 ?qc5 ?qc6 ?_)
  case qc1 => exact hl
  case qc2 =>
    intro j u hj
    exact Lib.cell?_alloc_some _ (HC.out j u hj)
  case qc3 => exact h1
  case qc4 => rw [Nat.zero_add]; simp only [maxLen]; omega
  case qc5 => rw [Nat.zero_add]; omega
  case qc6 => simp
  intro v' w1 hown hgrow hnil
  go_wp2
  go_ret
  refine ⟨v', rfl, by simpa using hown, ?_⟩
  exact ((Below.refl _ w).alloc (Nat.le_refl _) _).grown hgrow (by simp) (by intro k hk; simp [Value.ownBlock] at hk; omega)
set_option maxHeartbeats 1000000 in
theorem clone_none (n c : Nat) (w : World) :
    Calls Try.prog 45 #[.slice none n c] w fun e w' => e = .returned (.slice none 0 0) ∧ w' = w := by
  have q22 : ∀ (w : World) (a : Option Addr) (n c n' c' : Nat), (binOp .eql 22 (.slice a n c) (.slice none n' c')).run Try.prog w = .ok (.bool a.isNone) w := fun w a n c n' c' => Lib.run_eql_slice_nil w _ _ a n c n' c' Try.underlying22
  go_enter Try.func45, Try.ntmps45
  go_wp2
  go_ret
  exact ⟨rfl, rfl⟩

theorem flat_get {l : List (List Value)} (hl : ∀ c ∈ l, c.length = 6) (j i : Nat) (hj : j < l.length) (hi : i < 6) : l.flatten[j * 6 + i]? = l[j][i]? := by
  induction l generalizing j with
  | nil => simp at hj
  | cons c l ih =>
    have hc := hl c (by simp)
    rw [List.flatten_cons]
    cases j with
    | zero => rw [List.getElem?_append_left (by omega)]; simp
    | succ j =>
      rw [List.getElem?_append_right (by omega), show (j + 1) * 6 + i - c.length = j * 6 + i by omega, ih (fun c hc => hl c (by simp [hc])) j (by simpa using hj)]
      simp
theorem flat_len {l : List (List Value)} (hl : ∀ c ∈ l, c.length = 6) : l.flatten.length = l.length * 6 := by
  induction l with
  | nil => rfl
  | cons c l ih =>
    have hc := hl c (by simp)
    rw [List.flatten_cons, List.length_append, ih (fun c hc => hl c (by simp [hc])), List.length_cons]; omega
/-- The cells of the elements, as lists. -/
theorem cells_of {w : World} {ad : Addr} {l : List S34} (h : Kd.C k34 w (some ad) l.length l) (h0 : 0 < l.length) : ∃ cs : List (List Value), cs.length = l.length ∧ (∀ c ∈ cs, c.length = 6 ∧ ∀ u ∈ c, u.oneCell' = true) ∧ (∀ (j : Nat) (x : S34) (c : List Value), l[j]? = some x → cs[j]? = some c → k34.K w x c) ∧ ∀ (j : Nat) (u : Value), cs.flatten[j]? = some u → w.cell? (ad.add j) = some u := by
  obtain ⟨ad', e, hc⟩ := h.2.2 h0
  cases e
  have hex : ∀ j, ∃ c : List Value, j < l.length → c.length = 6 ∧ (∀ x, l[j]? = some x → k34.K w x c) ∧ ∀ i u, c[i]? = some u → w.cell? (ad.add (j * 6 + i)) = some u := by
    intro j
    by_cases hj : j < l.length
    · obtain ⟨c, h1, h2, h3⟩ := hc j _ (List.getElem?_eq_getElem hj)
      exact ⟨c, fun _ => ⟨h1, fun x hx => by rw [List.getElem?_eq_getElem hj] at hx; cases hx; exact h2, h3⟩⟩
    · exact ⟨[], fun h => absurd h hj⟩
  have hf := fun j => Classical.choose_spec (hex j)
  generalize hfd : (fun j => Classical.choose (hex j)) = f at hf
  have hf' : ∀ j, j < l.length → (f j).length = 6 ∧ (∀ x, l[j]? = some x → k34.K w x (f j)) ∧ ∀ i u, (f j)[i]? = some u → w.cell? (ad.add (j * 6 + i)) = some u := by subst hfd; exact hf
  have hl6 : ∀ c ∈ (List.range l.length).map f, c.length = 6 := by
    intro c hc
    obtain ⟨j, hj, rfl⟩ := List.mem_map.1 hc
    exact (hf' j (by simpa using hj)).1
  refine ⟨(List.range l.length).map f, by simp, fun c hc => ⟨hl6 c hc, ?_⟩, ?_, ?_⟩
  · obtain ⟨j, hj, rfl⟩ := List.mem_map.1 hc
    have hj' : j < l.length := by simpa using hj
    exact k34.K_one ((hf' j hj').2.1 _ (List.getElem?_eq_getElem hj'))
  · intro j x c hx hcj
    have hj' : j < l.length := (List.getElem?_eq_some_iff.1 hx).1
    rw [List.getElem?_map, List.getElem?_range hj'] at hcj
    simp at hcj
    subst hcj
    exact (hf' j hj').2.1 x hx
  · intro j u hu
    have hj : j < l.length * 6 := by
      have := (List.getElem?_eq_some_iff.1 hu).1
      rw [flat_len hl6] at this
      simpa using this
    have e : j / 6 * 6 + j % 6 = j := by omega
    rw [← e, flat_get hl6 (j / 6) (j % 6) (by simp; omega) (by omega)] at hu
    simp only [List.getElem_map, List.getElem_range] at hu
    have := (hf' (j / 6) (by omega)).2.2 _ u hu
    rwa [e] at this

/-- slices.Clone at the paths: the row is new, its elements are still the argument's. -/
theorem clone34 (A0 : Option Addr) (c0 : Nat) (l0 : List S34) (w : World) (hr0 : Kd.C k34 w A0 l0.length l0) (hl : l0.length ≤ 1000) :
    Calls Try.prog 45 #[.slice A0 l0.length c0] w fun e w' => ∃ v : Value, e = .returned v ∧ Kd.S (half w) 34 w' w.heap.size (fun _ => True) v (l0.map (fun x => (x, false))) ∧ Below w.heap.size w w' := by
  cases A0 with
  | none =>
    have h0 : l0 = [] := by
      rcases Nat.eq_zero_or_pos l0.length with h0 | h0
      · exact List.eq_nil_of_length_eq_zero h0
      · obtain ⟨ad, e, _⟩ := hr0.2.2 h0
        cases e
    subst h0
    refine (clone_none _ _ w).mono ?_
    rintro e w' ⟨rfl, rfl⟩
    exact ⟨_, rfl, Kd.S_nil _ _ _ _ _, Below.refl _ _⟩
  | some ad =>
    have hex : ∃ cs : List (List Value), cs.length = l0.length ∧ (∀ c ∈ cs, c.length = 6 ∧ ∀ u ∈ c, u.oneCell' = true) ∧ (∀ (j : Nat) (x : S34) (c : List Value), l0[j]? = some x → cs[j]? = some c → ∀ W, Below w.heap.size w W → k34.K W x c) ∧ ∀ (j : Nat) (u : Value), cs.flatten[j]? = some u → w.cell? (ad.add j) = some u := by
      rcases Nat.eq_zero_or_pos l0.length with h0 | h0
      · obtain rfl := List.eq_nil_of_length_eq_zero h0
        exact ⟨[], rfl, by simp, by simp, by simp⟩
      · obtain ⟨cs, h1, h2, h3, h4⟩ := cells_of hr0 h0
        exact ⟨cs, h1, h2, fun j x c hx hc W hW => k34.K_below hW (h3 j x c hx hc), h4⟩
    obtain ⟨cs, h1, h2, h3, h4⟩ := hex
    have h6 : ∀ c ∈ cs, c.length = 6 := fun c hc => (h2 c hc).1
    refine (clone_some ad l0.length c0 cs.flatten w (by rw [flat_len h6, h1]) hl h4 (fun u hu => ?_)).mono ?_
    · obtain ⟨c, hc, hu⟩ := List.mem_flatten.1 hu
      exact (h2 c hc).2 u hu
    · rintro e w' ⟨v, rfl, ho, hb⟩
      refine ⟨v, rfl, ⟨fun _ => 0, fun _ _ => trivial, cs.flatten, by rw [List.length_zipIdx, List.length_map]; exact ho, ?_⟩, hb⟩
      refine ⟨by simp [flat_len h6, h1]; rfl, fun j p hj => ?_⟩
      rw [List.getElem?_zipIdx, Nat.zero_add] at hj
      obtain ⟨x, hx, rfl⟩ := Option.map_eq_some_iff.1 hj
      rw [List.getElem?_map] at hx
      obtain ⟨y, hy, rfl⟩ := Option.map_eq_some_iff.1 hx
      have hjl : j < cs.length := by rw [h1]; exact (List.getElem?_eq_some_iff.1 hy).1
      have e : (cs.flatten.drop (j * 6)).take 6 = cs[j] := by
        apply List.ext_getElem?
        intro i
        rw [List.getElem?_take, List.getElem?_drop]
        split
        · rename_i hi
          exact flat_get h6 j i hjl hi
        · rw [List.getElem?_eq_none (by rw [h6 _ (List.getElem_mem hjl)]; omega)]
      show (half w).M _ _ _ (y, false) ((cs.flatten.drop (j * 6)).take 6)
      rw [e]
      exact ⟨fun h => (by cases h), fun _ W hW => h3 j y _ hy (List.getElem?_eq_getElem hjl) W hW⟩
/-- When all elements are the copy's own. -/
theorem half_all {w0 w : World} {base : Nat} {v : Value} {l : List S34} (h : Kd.S (half w0) 34 w base (fun _ => True) v (l.map (fun x => (x, true)))) : Kd.S k34 34 w base (fun _ => True) v l := by
  obtain ⟨f, h1, inner, ho, hr⟩ := h
  rw [List.length_zipIdx, List.length_map] at ho
  refine ⟨f, h1, inner, by rw [List.length_zipIdx]; exact ho, ?_⟩
  obtain ⟨hl, hr⟩ := hr
  rw [List.length_zipIdx, List.length_map] at hl
  refine ⟨by rw [List.length_zipIdx]; exact hl, fun j p hj => ?_⟩
  rw [List.getElem?_zipIdx, Nat.zero_add] at hj
  obtain ⟨x, hx, rfl⟩ := Option.map_eq_some_iff.1 hj
  have := hr j ((x, true), j) (by rw [List.getElem?_zipIdx, List.getElem?_map, hx, Nat.zero_add]; rfl)
  exact this.1 rfl

def avalanche_copied.f (l0 : List (S34)) : Option ((List (S34))) := if l0.length ≤ 1000 ∧ ∀ x ∈ l0, x.f1.length ≤ 1000 ∧ x.f2.length ≤ 1000 then some l0 else none

set_option maxHeartbeats 4000000 in
theorem avalanche_copied.calls (A0 : Option Addr) (c0 : Nat) (l0 : List (S34)) (r : List (S34)) (w : World) (hr0 : Kd.C k34 w A0 l0.length l0) (hc0 : l0.length ≤ c0) (h : avalanche_copied.f l0 = some r) :
    Calls Try.prog 37 #[.slice A0 l0.length c0] w fun e w' => ∃ v0_ : Value, e = .returned (v0_) ∧ Kd.S k34 34 w' w.heap.size (fun _ => True) v0_ r ∧ Below w.heap.size w w' := by
  unfold avalanche_copied.f at h
  split at h
  · rename_i hb
    injection h with h
    subst h
    obtain ⟨hn, hin⟩ := hb
    have hu34 := Try.underlying34
    have HC := Aside0.mk (clone34 A0 c0 l0 w hr0 hn)
    have HIN := Aside0.mk hin
    clear hr0 hin
    go_enter Try.func37, Try.ntmps37
    go_wp2_with (go_at_call 45; refine HC.out.mono ?_; rintro e w1 ⟨v, rfl, hS, hB⟩; obtain ⟨A1, c1, rfl⟩ := Kd.S_slice hS; simp only [List.length_map] at *)
    have HS := Aside0.mk hS
    have HB := Aside0.mk hB
    clear hS hB
    go_loopg [4, 5, 10] l0.length (fun gg _ _ s10 wr => ∃ k : Nat, k ≤ l0.length ∧ l0.length - k ≤ gg ∧ s10 = .int .i64 k ∧ Aside0 (Kd.S (half w) 34 wr w.heap.size (fun _ => True) (.slice A1 l0.length c1) ((l0.take k).map (fun x => (x, true)) ++ (l0.drop k).map (fun x => (x, false)))) ∧ Aside0 (Below w.heap.size w wr))
    case atStart => exact ⟨0, Nat.zero_le _, by omega, rfl, ⟨by simpa using HS.out⟩, ⟨HB.out⟩⟩
    case round =>
      obtain ⟨k, hk, hg, rfl, HS2, HB2⟩ := hrel
      by_cases hlt : k < l0.length
      · have hltz : (k : Int) < (l0.length : Int) := by omega
        obtain ⟨g, cap, eA, hgb, hgl, cells, hgh⟩ := Kd.S_form HS2.out (by simp; omega)
        obtain ⟨rfl, _, rfl⟩ : A1 = some ⟨g, 0, none⟩ ∧ True ∧ c1 = cap := by injection eA with e1 e2 e3; exact ⟨e1, trivial, e3⟩
        obtain ⟨oki, c, hcl, hM, hcc, hfr, hoki, hH⟩ := Kd.S_elem HS2.out (z34, false) (k : Int) (by omega) (by omega)
        have hxk : ((l0.take k).map (fun x => (x, true)) ++ (l0.drop k).map (fun x => (x, false))).getD k (z34, false) = (l0[k], false) := by
          rw [List.getD_eq_getElem?_getD, List.getElem?_append_right (by simp; omega)]
          simp [show k - min k l0.length = 0 by omega, hlt]
        rw [Int.toNat_natCast, hxk] at hM
        obtain ⟨B1, d1, B2, d2, rfl, hl1, hC1, hl2, hC2⟩ := k34_open (hM.2 rfl wr HB2.out)
        simp only [show (half w).sz = 6 from rfl, Int.toNat_natCast] at hcc hfr
        have hx0 := hcc 0 _ rfl
        have hx1 := hcc 1 _ rfl
        have hx2 := hcc 2 _ rfl
        have hx3 := hcc 3 _ rfl
        have hx4 := hcc 4 _ rfl
        have hx5 := hcc 5 _ rfl
        rw [Nat.add_zero] at hx0
        have hb := HIN.out l0[k] (List.getElem_mem hlt)
        obtain ⟨x, hx⟩ : ∃ x, x = l0[k] := ⟨_, rfl⟩
        rw [← hx] at hx0 hx1 hx2 hx3 hx4 hx5 hb hl1 hC1 hl2 hC2
        have HX := Aside0.mk hx
        have HXK := Aside0.mk hxk
        have hf1 := hfr 1
        have hf2 := hfr 2
        have HC1 := Aside0.mk hC1
        have HC2 := Aside0.mk hC2
        have HBB := Aside0.mk hb
        clear hx hxk hcc hfr hcl hM hoki hH hC1 hC2 hb hgh eA
        have hS0 : ((wr.alloc (.cells #[.int .i64 x.f0, .slice B1 x.f1.length d1, .slice B2 x.f2.length d2, .int .i64 x.f3, .int .i64 x.f4, .int .i64 x.f5] 34)).drew).cell? ⟨wr.heap.size, 1, none⟩ = some (.slice B1 x.f1.length d1) ∧ ((wr.alloc (.cells #[.int .i64 x.f0, .slice B1 x.f1.length d1, .slice B2 x.f2.length d2, .int .i64 x.f3, .int .i64 x.f4, .int .i64 x.f5] 34)).drew).cell? ⟨wr.heap.size, 2, none⟩ = some (.slice B2 x.f2.length d2) := by
          have h_ := heap_alloc_new wr (.cells #[.int .i64 x.f0, .slice B1 x.f1.length d1, .slice B2 x.f2.length d2, .int .i64 x.f3, .int .i64 x.f4, .int .i64 x.f5] 34)
          have h2_ : ∀ p, (World.drew (wr.alloc (.cells #[.int .i64 x.f0, .slice B1 x.f1.length d1, .slice B2 x.f2.length d2, .int .i64 x.f3, .int .i64 x.f4, .int .i64 x.f5] 34))).cell? p = (wr.alloc (.cells #[.int .i64 x.f0, .slice B1 x.f1.length d1, .slice B2 x.f2.length d2, .int .i64 x.f3, .int .i64 x.f4, .int .i64 x.f5] 34)).cell? p := fun p => rfl
          rw [h2_, h2_]
          unfold World.cell?
          rw [h_]
          exact ⟨rfl, rfl⟩
        replace HC1 := Aside0.mk (Kd.C_drew (Kd.C_alloc HC1.out (.cells #[.int .i64 x.f0, .slice B1 x.f1.length d1, .slice B2 x.f2.length d2, .int .i64 x.f3, .int .i64 x.f4, .int .i64 x.f5] 34)))
        replace HC2 := Aside0.mk (Kd.C_drew (Kd.C_alloc HC2.out (.cells #[.int .i64 x.f0, .slice B1 x.f1.length d1, .slice B2 x.f2.length d2, .int .i64 x.f3, .int .i64 x.f4, .int .i64 x.f5] 34)))
        go_wp2
        refine start_ (n := 16) (S := fun w' => w'.cell? ⟨wr.heap.size, 1, none⟩ = some (.slice B1 x.f1.length d1) ∧ w'.cell? ⟨wr.heap.size, 2, none⟩ = some (.slice B2 x.f2.length d2)) (ds := [12, 15]) #[false, false, false, false, false, false, false, false, false, false, false, false, false, false, false, false] (by kernel_rfl) rfl rfl hS0 (fun hHeld => ?_)
        refine pure_ (i := 0) (N := some 15) (v := ?_) (a' := ?_) #[true, false, false, false, false, false, false, false, false, false, false, false, false, false, false, false] rfl rfl (by kernel_rfl) (fun _ _ _ h => h) (Or.inl ⟨by rfl, ?_⟩) ?_ ?_
        rotate_left
        · intro w'
          go_simp
          with_reducible rfl
        rotate_left
        · simp only [Act.put, List.setIfInBounds_toArray, List.set_cons_zero, List.set_cons_succ, i64_w, i32_w]
          rfl
        refine pure_ (i := 1) (N := some 16) (v := ?_) (a' := ?_) #[true, true, false, false, false, false, false, false, false, false, false, false, false, false, false, false] rfl rfl (by kernel_rfl) (fun _ _ _ h => h) (Or.inl ⟨by rfl, ?_⟩) ?_ ?_
        rotate_left
        · intro w'
          go_simp
          with_reducible rfl
        rotate_left
        · simp only [Act.put, List.setIfInBounds_toArray, List.set_cons_zero, List.set_cons_succ, i64_w, i32_w]
          rfl
        refine pure_ (i := 2) (N := some 17) (v := ?_) (a' := ?_) #[true, true, true, false, false, false, false, false, false, false, false, false, false, false, false, false] rfl rfl (by kernel_rfl) (fun _ _ _ h => h) (Or.inl ⟨by rfl, ?_⟩) ?_ ?_
        rotate_left
        · intro w'
          go_simp
          with_reducible rfl
        rotate_left
        · simp only [Act.put, List.setIfInBounds_toArray, List.set_cons_zero, List.set_cons_succ, i64_w, i32_w]
          rfl
        refine pure_ (i := 3) (N := some 18) (v := ?_) (a' := ?_) #[true, true, true, true, false, false, false, false, false, false, false, false, false, false, false, false] rfl rfl (by kernel_rfl) (fun _ _ _ h => h) (Or.inl ⟨by rfl, ?_⟩) ?_ ?_
        rotate_left
        · intro w'
          go_simp
          with_reducible rfl
        rotate_left
        · simp only [Act.put, List.setIfInBounds_toArray, List.set_cons_zero, List.set_cons_succ, i64_w, i32_w]
          rfl
        refine pure_ (i := 4) (N := some 19) (v := ?_) (a' := ?_) #[true, true, true, true, true, false, false, false, false, false, false, false, false, false, false, false] rfl rfl (by kernel_rfl) (fun _ _ _ h => h) (Or.inl ⟨by rfl, ?_⟩) ?_ ?_
        rotate_left
        · intro w'
          go_simp
          with_reducible rfl
        rotate_left
        · simp only [Act.put, List.setIfInBounds_toArray, List.set_cons_zero, List.set_cons_succ, i64_w, i32_w]
          rfl
        refine pure_ (i := 7) (N := some 22) (v := ?_) (a' := ?_) #[true, true, true, true, true, false, false, true, false, false, false, false, false, false, false, false] rfl rfl (by kernel_rfl) (fun _ _ _ h => h) (Or.inl ⟨by rfl, ?_⟩) ?_ ?_
        rotate_left
        · intro w'
          go_simp
          with_reducible rfl
        rotate_left
        · simp only [Act.put, List.setIfInBounds_toArray, List.set_cons_zero, List.set_cons_succ, i64_w, i32_w]
          rfl
        refine take_ (i := 5) (N := some 20) (v := ?_) (a' := ?_) #[true, true, true, true, true, true, false, true, false, false, false, false, false, false, false, false] rfl rfl (by kernel_rfl) (fun _ _ _ h => h) (Or.inl ⟨by rfl, ?_⟩) hHeld ?_ ?_
        rotate_left
        · rintro w' ⟨s0, s1⟩
          go_simp
          with_reducible rfl
        rotate_left
        · simp only [Act.put, List.setIfInBounds_toArray, List.set_cons_zero, List.set_cons_succ, i64_w, i32_w]
          rfl
        refine take_ (i := 8) (N := some 23) (v := ?_) (a' := ?_) #[true, true, true, true, true, true, false, true, true, false, false, false, false, false, false, false] rfl rfl (by kernel_rfl) (fun _ _ _ h => h) (Or.inl ⟨by rfl, ?_⟩) hHeld ?_ ?_
        rotate_left
        · rintro w' ⟨s0, s1⟩
          go_simp
          with_reducible rfl
        rotate_left
        · simp only [Act.put, List.setIfInBounds_toArray, List.set_cons_zero, List.set_cons_succ, i64_w, i32_w]
          rfl
        refine one_ (i := 6) (N := some 21) #[true, true, true, true, true, true, true, true, true, false, false, false, false, false, false, false] rfl rfl (by kernel_rfl) (by decide) (fun K hK => ?_)
        refine goes_ Try.func46 (by kernel_rfl) rfl #[.slice B1 x.f1.length d1] (by rfl) rfl rfl (by (try simp only [List.map_toArray, List.map_cons, List.map_nil]); first | done | rfl) ?_
        refine (clone_ints B1 d1 x.f1 _ HC1.out (by have := HBB.out.1; omega)).mono ?_
        rintro e w2 ⟨v1, rfl, hv1, hb1⟩
        obtain ⟨E1, m1, rfl⟩ := Kd.R_slice hv1
        refine ⟨_, rfl, ?_⟩
        have hHeld2 : w2.cell? ⟨wr.heap.size, 1, none⟩ = some (.slice B1 x.f1.length d1) ∧ w2.cell? ⟨wr.heap.size, 2, none⟩ = some (.slice B2 x.f2.length d2) := ⟨pw_cell_below hb1 hHeld.1, pw_cell_below hb1 hHeld.2⟩
        have HV1 := Aside0.mk hv1
        have HB1 := Aside0.mk hb1
        clear hv1 hb1
        refine hK.out _ _ hHeld2 (fun hHeld3 => ?_)
        clear hK K
        refine norm_ (a' := ?_) ?_ ?_
        rotate_left
        · show Act.put _ (some 21) _ = _
          simp only [Act.put, List.setIfInBounds_toArray, List.set_cons_zero, List.set_cons_succ, i64_w, i32_w]
          rfl
        refine one_ (i := 9) (N := some 24) #[true, true, true, true, true, true, true, true, true, true, false, false, false, false, false, false] rfl rfl (by kernel_rfl) (by decide) (fun K hK => ?_)
        refine goes_ Try.func46 (by kernel_rfl) rfl #[.slice B2 x.f2.length d2] (by rfl) rfl rfl (by (try simp only [List.map_toArray, List.map_cons, List.map_nil]); first | done | rfl) ?_
        refine (clone_ints B2 d2 x.f2 _ (Kd.C_below HC2.out HB1.out) (by have := HBB.out.2; omega)).mono ?_
        rintro e w3 ⟨v2, rfl, hv2, hb2⟩
        obtain ⟨E2, m2, rfl⟩ := Kd.R_slice hv2
        refine ⟨_, rfl, ?_⟩
        have hHeld4 : w3.cell? ⟨wr.heap.size, 1, none⟩ = some (.slice B1 x.f1.length d1) ∧ w3.cell? ⟨wr.heap.size, 2, none⟩ = some (.slice B2 x.f2.length d2) := ⟨pw_cell_below hb2 hHeld3.1, pw_cell_below hb2 hHeld3.2⟩
        have HV2 := Aside0.mk hv2
        have HB2' := Aside0.mk hb2
        clear hv2 hb2
        refine hK.out _ _ hHeld4 (fun hHeld5 => ?_)
        clear hK K
        refine norm_ (a' := ?_) ?_ ?_
        rotate_left
        · show Act.put _ (some 24) _ = _
          simp only [Act.put, List.setIfInBounds_toArray, List.set_cons_zero, List.set_cons_succ, i64_w, i32_w]
          rfl
        have HB3 := Aside0.mk (show Below wr.heap.size wr w3 from ((below_drew (below_alloc (Below.refl _ _) _)).trans (HB1.out.mono (by simp))).trans (HB2'.out.mono (Nat.le_trans (by simp) HB1.out.size)))
        have hs1 : wr.heap.size < (World.drew (wr.alloc (.cells #[.int .i64 x.f0, .slice B1 x.f1.length d1, .slice B2 x.f2.length d2, .int .i64 x.f3, .int .i64 x.f4, .int .i64 x.f5] 34))).heap.size := by simp
        have hok : ∀ q, q < wr.heap.size → ¬ (some q = (Value.slice E1 x.f1.length m1).ownBlock ∨ some q = (Value.slice E2 x.f2.length m2).ownBlock) := by
          rintro q hq (e | e)
          · have := Kd.R_base HV1.out q e.symm
            omega
          · have h1 := Kd.R_base HV2.out q e.symm
            have h2 := HB1.out.size
            omega
        have HS3 := Aside0.mk (Kd.S_mono (ok' := fun q => True ∧ ¬ (some q = (Value.slice E1 x.f1.length m1).ownBlock ∨ some q = (Value.slice E2 x.f2.length m2).ownBlock)) (Kd.S_below (Kd.S_mono (Kd.S_bound HS2.out) (ok' := fun q => q < wr.heap.size) (fun _ h => h.2.2.1)) HB3.out) (fun q hq => ⟨trivial, hok q hq⟩))
        have HBw := Aside0.mk (HB2.out.trans (HB3.out.mono HB2.out.size))
        obtain ⟨oki, c, hcl, hM, hcc, hfr, hoki, hH⟩ := Kd.S_elem HS3.out (z34, false) (k : Int) (by omega) (by omega)
        rw [Int.toNat_natCast, HXK.out] at hM
        obtain ⟨C1, e1, C2, e2, rfl, _, _, _, _⟩ := k34_open (hM.2 rfl w3 HBw.out)
        simp only [show (half w).sz = 6 from rfl, Int.toNat_natCast] at hcc hfr
        have hy1 := hcc 1 _ rfl
        have hy2 := hcc 2 _ rfl
        have hf1 := hfr 1
        have hf2 := hfr 2
        have hv1b : ∀ q, (Value.slice E1 x.f1.length m1).ownBlock = some q → w.heap.size ≤ q := fun q e => by
          have h1 := Kd.R_base HV1.out q e
          have h2 := HB2.out.size
          omega
        have hv2b : ∀ q, (Value.slice E2 x.f2.length m2).ownBlock = some q → w.heap.size ≤ q := fun q e => by
          have h1 := Kd.R_base HV2.out q e
          have h2 := HB2.out.size
          have h3 := HB1.out.size
          omega
        have hr1 : Kd.R (Kd.int .i64) 3 w3 w.heap.size (fun q => some q = (Value.slice E1 x.f1.length m1).ownBlock ∨ some q = (Value.slice E2 x.f2.length m2).ownBlock) (Value.slice E1 x.f1.length m1) l0[k].f1 := by
          rw [← HX.out]
          exact Kd.R_lower (Kd.R_mono (Kd.R_tight rfl (Kd.R_below HV1.out HB2'.out)) (fun q e => .inl e)) (by have := HB2.out.size; omega)
        have hr2 : Kd.R (Kd.int .i64) 3 w3 w.heap.size (fun q => some q = (Value.slice E1 x.f1.length m1).ownBlock ∨ some q = (Value.slice E2 x.f2.length m2).ownBlock) (Value.slice E2 x.f2.length m2) l0[k].f2 := by
          rw [← HX.out]
          exact Kd.R_lower (Kd.R_mono (Kd.R_tight rfl HV2.out) (fun q e => .inr e)) (by have := HB2.out.size; have := HB1.out.size; omega)
        have hSeg := Kd.S_seg (ok := fun _ => True) (okg := fun q => some q = (Value.slice E1 x.f1.length m1).ownBlock ∨ some q = (Value.slice E2 x.f2.length m2).ownBlock) (okp := fun q => some q = (Value.slice E1 x.f1.length m1).ownBlock ∨ some q = (Value.slice E2 x.f2.length m2).ownBlock) (x' := (l0[k], true)) (seg := [(Value.slice E1 x.f1.length m1), (Value.slice E2 x.f2.length m2)]) (j := 1) hH (by omega) (by omega) (show 1 + 2 ≤ 6 by decide) ⟨fun _ => k34_mkM w3 w.heap.size _ l0[k] hr1 hr2, fun h => (by cases h)⟩ (fun q hq => .inr hq) (fun q hq => ⟨trivial, fun e => by subst e; exact hok _ (by omega) hq⟩)
        rw [Int.toNat_natCast, show (half w).sz = 6 from rfl] at hSeg
        have HSeg := Aside0.mk hSeg.1
        have HBs := Aside0.mk (show Below w.heap.size w ((w3.setCell ⟨g, k * 6 + 1, none⟩ (Value.slice E1 x.f1.length m1)).setCell ⟨g, k * 6 + 2, none⟩ (Value.slice E2 x.f2.length m2)) from below_set (below_set HBw.out (by omega)) (by omega))
        clear hSeg hcc hfr hcl hM hoki hH hr1 hr2 hok hv1b hv2b
        refine pure_ (i := 10) (N := some 25) (v := ?_) (a' := ?_) #[true, true, true, true, true, true, true, true, true, true, true, false, false, false, false, false] rfl rfl (by kernel_rfl) (fun _ _ _ h => h) (Or.inl ⟨by rfl, ?_⟩) ?_ ?_
        rotate_left
        · intro w'
          go_simp
          with_reducible rfl
        rotate_left
        · simp only [Act.put, List.setIfInBounds_toArray, List.set_cons_zero, List.set_cons_succ, i64_w, i32_w]
          rfl
        refine pure_ (i := 11) (N := some 26) (v := ?_) (a' := ?_) #[true, true, true, true, true, true, true, true, true, true, true, true, false, false, false, false] rfl rfl (by kernel_rfl) (fun _ _ _ h => h) (Or.inl ⟨by rfl, ?_⟩) ?_ ?_
        rotate_left
        · intro w'
          go_simp
          with_reducible rfl
        rotate_left
        · simp only [Act.put, List.setIfInBounds_toArray, List.set_cons_zero, List.set_cons_succ, i64_w, i32_w]
          rfl
        refine last_ (i := 12) (N := none) #[true, true, true, true, true, true, true, true, true, true, true, true, true, false, false, false] rfl rfl (by kernel_rfl) (by decide) (fun K hK => ?_)
        refine skip_ (w1 := ?_) (by rfl) rfl ?_ ?_
        rotate_left
        · go_simp
          rfl
        refine hK.out _ _ ?_
        clear hK K
        refine pure_ (i := 13) (N := some 27) (v := ?_) (a' := ?_) #[true, true, true, true, true, true, true, true, true, true, true, true, true, true, false, false] rfl rfl (by kernel_rfl) (fun _ _ _ h => h) (Or.inl ⟨by rfl, ?_⟩) ?_ ?_
        rotate_left
        · intro w'
          go_simp
          with_reducible rfl
        rotate_left
        · simp only [Act.put, List.setIfInBounds_toArray, List.set_cons_zero, List.set_cons_succ, i64_w, i32_w]
          rfl
        refine pure_ (i := 14) (N := some 28) (v := ?_) (a' := ?_) #[true, true, true, true, true, true, true, true, true, true, true, true, true, true, true, false] rfl rfl (by kernel_rfl) (fun _ _ _ h => h) (Or.inl ⟨by rfl, ?_⟩) ?_ ?_
        rotate_left
        · intro w'
          go_simp
          with_reducible rfl
        rotate_left
        · simp only [Act.put, List.setIfInBounds_toArray, List.set_cons_zero, List.set_cons_succ, i64_w, i32_w]
          rfl
        refine last_ (i := 15) (N := none) #[true, true, true, true, true, true, true, true, true, true, true, true, true, true, true, true] rfl rfl (by kernel_rfl) (by decide) (fun K hK => ?_)
        refine skip_ (w1 := ?_) (by rfl) rfl ?_ ?_
        rotate_left
        · go_simp
          rfl
        refine hK.out _ _ ?_
        clear hK K
        refine done_ (by kernel_rfl) ?_
        go_wp2
        go_roundg (l0.length - (k + 1))
        case measure => omega
        case rel =>
          refine ⟨k + 1, by omega, by omega, by go_num, ⟨?_⟩, HBs⟩
          have e : ((l0.take k).map (fun x => (x, true)) ++ (l0.drop k).map (fun x => (x, false))).set k (l0[k], true) = (l0.take (k + 1)).map (fun x => (x, true)) ++ (l0.drop (k + 1)).map (fun x => (x, false)) := by
            have h0 : k - ((l0.take k).map (fun x => (x, true))).length = 0 := by simp; omega
            rw [List.set_append_right _ _ (by simp; omega), h0, List.drop_eq_getElem_cons hlt, List.map_cons, List.set_cons_zero, List.take_succ_eq_append_getElem hlt, List.map_append, List.append_assoc]
            rfl
          rw [← e]
          exact HSeg.out
      · have hltz : ¬ (k : Int) < (l0.length : Int) := by omega
        obtain rfl : k = l0.length := by omega
        go_wp2
        go_ret
        refine ⟨_, rfl, half_all (w0 := w) ?_, HB2.out⟩
        have := HS2.out
        rw [List.take_length, List.drop_length] at this
        simpa using this
  · cases h
end Go.Proofs.Ytfjnpdgjigkbcaa.PAll
