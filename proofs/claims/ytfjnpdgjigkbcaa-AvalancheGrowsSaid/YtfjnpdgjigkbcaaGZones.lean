/- avalanche.Zones and avalanche.Lifts return what the unstable paths threaten, in increasing order, each once. Condition: at most 1000 paths with zones from 1 on, at most 1000 each, and at most 100000 levels. -/
import Derived.Test.YtfjnpdgjigkbcaaPAllx23
import Derived.Test.YtfjnpdgjigkbcaaUUnst
import Derived.Test.YtfjnpdgjigkbcaaGBase
namespace Go.Proofs.Ytfjnpdgjigkbcaa.PAll
open Go.RowKit Go.Proofs.YtfjnpdgjigkbcaaW.PrintWords Go.Proofs.YtfjnpdgjigkbcaaW.PrintLast Go.Proofs.YtfjnpdgjigkbcaaW.PrintMore
set_option linter.unusedVariables false
set_option linter.unusedSimpArgs false

/-- What a path threatens: its zones, or its lifts. -/
def sel (b : Bool) (x : S34) : List Int := if b = true then x.f1 else x.f2
def threatB (b : Bool) (l : List S34) (lv : List Int) : List Int := (l.filter (Pure.unstB lv)).flatMap (sel b)
def FineAll (l : List S34) (lv : List Int) : Prop := l.length ≤ 1000 ∧ lv.length ≤ 100000 ∧ ∀ x ∈ l, 0 < x.f1.length ∧ x.f1.length ≤ 1000 ∧ x.f2.length ≤ 1000 ∧ ∀ z ∈ x.f1, 1 ≤ z
instance (l : List S34) (lv : List Int) : Decidable (FineAll l lv) := by unfold FineAll; infer_instance
def avalanche_Zones.f (l0 : List (S34)) (l1 : List Int) : Option (List Int) := if FineAll l0 l1 then some (Help.sset (threatB true l0 l1)) else none
def avalanche_Lifts.f (l0 : List (S34)) (l1 : List Int) : Option (List Int) := if FineAll l0 l1 then some (Help.sset (threatB false l0 l1)) else none

theorem of40 (f0 f3 f4 f5 : Int) (v1 v2 : Value) (W : World) :
    Calls Try.prog 40 #[.agg #[.int .i64 f0, v1, v2, .int .i64 f3, .int .i64 f4, .int .i64 f5]] W fun e w' => e = .returned v1 ∧ Below W.heap.size W w' := by
  have hu34 := Try.underlying34
  go_enter Try.func40, Try.ntmps40
  go_wp2
  go_ret
  exact ⟨rfl, below_alloc (Below.refl _ _) _⟩
theorem of42 (f0 f3 f4 f5 : Int) (v1 v2 : Value) (W : World) :
    Calls Try.prog 42 #[.agg #[.int .i64 f0, v1, v2, .int .i64 f3, .int .i64 f4, .int .i64 f5]] W fun e w' => e = .returned v2 ∧ Below W.heap.size W w' := by
  have hu34 := Try.underlying34
  go_enter Try.func42, Try.ntmps42
  go_wp2
  go_ret
  exact ⟨rfl, below_alloc (Below.refl _ _) _⟩
theorem thr_len (b : Bool) (l : List S34) (lv : List Int) (h : ∀ x ∈ l, x.f1.length ≤ 1000 ∧ x.f2.length ≤ 1000) : (threatB b l lv).length ≤ l.length * 1000 := by
  induction l with
  | nil => simp [threatB]
  | cons x l ih =>
    have h1 := h x (by simp)
    have h2 := ih (fun y hy => h y (by simp [hy]))
    unfold threatB at h2 ⊢
    rw [List.filter_cons]
    split
    · rw [List.flatMap_cons, List.length_append, List.length_cons]
      have h3 : (sel b x).length ≤ 1000 := by unfold sel; split <;> omega
      rw [Nat.succ_mul, Nat.add_comm]
      exact Nat.add_le_add h2 h3
    · rw [List.length_cons, Nat.succ_mul]
      exact Nat.le_trans h2 (Nat.le_add_right _ _)
theorem thr_take (b : Bool) (l : List S34) (lv : List Int) (k : Nat) (h : k < l.length) : threatB b (l.take (k + 1)) lv = threatB b (l.take k) lv ++ (if Pure.unstB lv l[k] = true then sel b l[k] else []) := by
  unfold threatB
  rw [List.take_succ_eq_append_getElem h, List.filter_append, List.flatMap_append]
  congr 1
  cases hh : Pure.unstB lv l[k] with
  | true => rw [List.filter_cons, if_pos hh, List.filter_nil, if_pos rfl]; simp
  | false => rw [List.filter_cons, if_neg (by simp [hh]), List.filter_nil, if_neg (by decide)]; rfl

theorem boxZ {W : World} {B : Nat} {a0 a1 a2 a3 a4 a5 : Value} (h : W.heap[B]? = some (.cells #[a0, a1, a2, a3, a4, a5] 34 (0, 0))) :
    (W.cell? ⟨B, 0, none⟩ = some a0 ∧ W.cell? ⟨B, 1, none⟩ = some a1 ∧ W.cell? ⟨B, 2, none⟩ = some a2 ∧ W.cell? ⟨B, 3, none⟩ = some a3 ∧ W.cell? ⟨B, 4, none⟩ = some a4 ∧ W.cell? ⟨B, 5, none⟩ = some a5) ∧ W.frozen? ⟨B, 1, none⟩ = false ∧ W.frozen? ⟨B, 2, none⟩ = false :=
  ⟨⟨blk_cell h 0, blk_cell h 1, blk_cell h 2, blk_cell h 3, blk_cell h 4, blk_cell h 5⟩, blk_frozen h 1, blk_frozen h 2⟩

set_option maxHeartbeats 4000000 in
theorem threatened (b : Bool) (g : Nat) (hgb : (b = true ∧ g = 40) ∨ (b = false ∧ g = 42)) (A0 : Option Addr) (c0 : Nat) (l0 : List (S34)) (A1 : Option Addr) (c1 : Nat) (l1 : List Int) (w : World) (hr0 : Kd.C k34 w A0 l0.length l0) (hr1 : Kd.C (Kd.int .i64) w A1 l1.length l1) (hc1 : l1.length ≤ c1) (hf : FineAll l0 l1) :
    Calls Try.prog 39 #[.slice A0 l0.length c0, .slice A1 l1.length c1, .func (.func g) #[] #[]] w fun e w' => ∃ v0_ : Value, e = .returned (v0_) ∧ Kd.R (Kd.int .i64) 3 w' w.heap.size (fun _ => True) v0_ (Help.sset (threatB b l0 l1)) ∧ Below w.heap.size w w' := by
  obtain ⟨hn, hlv, hin⟩ := hf
  have hu34 := Try.underlying34
  have HC := Aside0.mk hr0
  have HC1 := Aside0.mk hr1
  have HL1 := Aside0.mk hc1
  have HIN := Aside0.mk hin
  have HG := Aside0.mk hgb
  clear hr0 hr1 hin hgb hc1
  have hall : ∀ x ∈ l0, x.f1.length ≤ 1000 ∧ x.f2.length ≤ 1000 := fun x hx => ⟨(HIN.out x hx).2.1, (HIN.out x hx).2.2.1⟩
  have HALL := Aside0.mk hall
  clear hall
  rcases HG.out with ⟨hbv, rfl⟩ | ⟨hbv, rfl⟩
  all_goals
    have HBV := Aside0.mk hbv
    clear HG hbv
    go_enter Try.func39, Try.ntmps39
    go_wp2
    go_loopg [7, 9, 12] l0.length (fun gg s7 _ s12 wr => ∃ k : Nat, k ≤ l0.length ∧ l0.length - k ≤ gg ∧ s12 = .int .i64 k ∧ Aside0 (Kd.R (Kd.int .i64) 3 wr w.heap.size (fun _ => True) s7 (threatB b (l0.take k) l1)) ∧ Aside0 (Below w.heap.size w wr))
    case atStart => exact ⟨0, Nat.zero_le _, by omega, rfl, ⟨Kd.R_nil _ _ _ _ _⟩, ⟨Below.refl _ _⟩⟩
    case round =>
      obtain ⟨k, hk, hg, rfl, HR, HB⟩ := hrel
      by_cases hlt : k < l0.length
      · have hltz : (k : Int) < (l0.length : Int) := by omega
        obtain ⟨ad, B1, d1, B2, d2, rfl, hx0, hx1, hx2, hx3, hx4, hx5, hl1, hC1, hl2, hC2⟩ := at_T34 (Kd.C_below HC.out HB.out) (k : Int) (by omega) (by omega)
        have hrd : rd_T34 l0 (k : Int) = l0[k] := by simp [rd_T34, List.getD_eq_getElem?_getD, hlt]
        rw [hrd] at hx0 hx1 hx2 hx3 hx4 hx5 hl1 hC1 hl2 hC2
        rw [Int.toNat_natCast] at hx0 hx1 hx2 hx3 hx4 hx5
        have hb := HIN.out l0[k] (List.getElem_mem hlt)
        have htk := thr_take b l0 l1 k hlt
        have htl := thr_len b (l0.take k) l1 (fun x hx => HALL.out x (List.mem_of_mem_take hx))
        have hlk := List.length_take_le k l0
        obtain ⟨x, hx⟩ : ∃ x, x = l0[k] := ⟨_, rfl⟩
        rw [← hx] at hx0 hx1 hx2 hx3 hx4 hx5 hb hl1 hC1 hl2 hC2
        rw [← hx] at htk
        obtain ⟨kk, hkk⟩ := Ev.rounds (Pure.unstable x l1 hb hlv)
        have HTK := Aside0.mk htk
        have HTL := Aside0.mk (show (threatB b (l0.take k) l1).length ≤ 1000000 from Nat.le_trans htl (Nat.le_trans (Nat.mul_le_mul_right 1000 (Nat.le_trans hlk hk)) (Nat.mul_le_mul_right 1000 hn)))
        have HKK := Aside0.mk hkk
        have HC1x := Aside0.mk hC1
        have HC2x := Aside0.mk hC2
        have HL1x := Aside0.mk hl1
        have HL2x := Aside0.mk hl2
        have HBL := Aside0.mk (blk_new wr (.cells #[.int .i64 x.f0, .slice B1 x.f1.length d1, .slice B2 x.f2.length d2, .int .i64 x.f3, .int .i64 x.f4, .int .i64 x.f5] 34))
        have HB0 := Aside0.mk (show Below wr.heap.size wr (wr.alloc (.cells #[.int .i64 x.f0, .slice B1 x.f1.length d1, .slice B2 x.f2.length d2, .int .i64 x.f3, .int .i64 x.f4, .int .i64 x.f5] 34)) from below_alloc (Below.refl _ _) _)
        have HBB := Aside0.mk hb
        clear hrd hx htk htl hlk hC1 hC2 hb hl1 hl2 hkk
        cases hu : Pure.unstB l1 x with
        | true =>
          rw [hu] at HKK
          have HU := Aside0.mk hu
          clear hu
          obtain ⟨E, n, hE⟩ := Kd.R_slice HR.out
          subst hE
          go_wp2_with (first | (go_at_call 22; refine (avalanche_Unstable.calls kk x.f0 _ _ x.f1 _ _ x.f2 x.f3 x.f4 x.f5 _ _ l1 true _ (Kd.C_below HC1x.out HB0.out) HL1x.out (Kd.C_below HC2x.out HB0.out) HL2x.out (Kd.C_below HC1.out (HB.out.trans (HB0.out.mono HB.out.size))) HL1.out HKK.out).mono ?_; rintro e w2 ⟨rfl, hb2⟩; have HB2 := Aside0.mk (HB0.out.trans (hb2.mono (by simp))); have hbl2 := blk_below HBL.out hb2; obtain ⟨⟨hy0, hy1, hy2, hy3, hy4, hy5⟩, hf1, hf2⟩ := boxZ hbl2; clear hb2 hbl2) | (go_at_call 40; refine (of40 _ _ _ _ _ _ _).mono ?_; rintro e w3 ⟨rfl, hb3⟩; have HB3 := Aside0.mk (HB2.out.trans (hb3.mono HB2.out.size)); clear hb3) | (go_at_call 42; refine (of42 _ _ _ _ _ _ _).mono ?_; rintro e w3 ⟨rfl, hb3⟩; have HB3 := Aside0.mk (HB2.out.trans (hb3.mono HB2.out.size)); clear hb3) | (at_builtin; refine print_append_row (w0 := w) w.heap.size rfl (.tmp 19) (.tmp 22) 31 3 .i64 8 rfl Try.underlying31 info3 (by decide) (.slice E (threatB b (l0.take k) l1).length n) (threatB b (l0.take k) l1) x.f1 B1 x.f1.length d1 rfl rfl (Kd.own_of_R (Kd.R_below HR.out HB3.out)) (Kd.reads_of_C (Kd.C_below HC1x.out HB3.out)) (HB.out.trans (HB3.out.mono HB.out.size)) (Nat.le_trans HB.out.size HB3.out.size) (by have := HTL.out; have := HBB.out; omega) ?_; intro v4 w4 hown hb4 hg4 hat4) | (at_builtin; refine print_append_row (w0 := w) w.heap.size rfl (.tmp 19) (.tmp 22) 31 3 .i64 8 rfl Try.underlying31 info3 (by decide) (.slice E (threatB b (l0.take k) l1).length n) (threatB b (l0.take k) l1) x.f2 B2 x.f2.length d2 rfl rfl (Kd.own_of_R (Kd.R_below HR.out HB3.out)) (Kd.reads_of_C (Kd.C_below HC2x.out HB3.out)) (HB.out.trans (HB3.out.mono HB.out.size)) (Nat.le_trans HB.out.size HB3.out.size) (by have := HTL.out; have := HBB.out; omega) ?_; intro v4 w4 hown hb4 hg4 hat4))
          go_roundg (l0.length - (k + 1))
          case measure => omega
          case rel =>
            refine ⟨k + 1, by omega, by omega, by go_num, ⟨?_⟩, ⟨hb4⟩⟩
            rw [HTK.out, if_pos HU.out]
            have e : sel b x = sel b x := rfl
            conv at e => rhs; rw [sel, HBV.out]
            rw [e]
            exact Help.int_own (by simpa [nums] using hown)
        | false =>
          rw [hu] at HKK
          have HU := Aside0.mk hu
          clear hu
          obtain ⟨E, n, hE⟩ := Kd.R_slice HR.out
          subst hE
          go_wp2_with (go_at_call 22; refine (avalanche_Unstable.calls kk x.f0 _ _ x.f1 _ _ x.f2 x.f3 x.f4 x.f5 _ _ l1 false _ (Kd.C_below HC1x.out HB0.out) HL1x.out (Kd.C_below HC2x.out HB0.out) HL2x.out (Kd.C_below HC1.out (HB.out.trans (HB0.out.mono HB.out.size))) HL1.out HKK.out).mono ?_; rintro e w2 ⟨rfl, hb2⟩; have HB2 := Aside0.mk (HB0.out.trans (hb2.mono (by simp))); have hbl2 := blk_below HBL.out hb2; obtain ⟨⟨hy0, hy1, hy2, hy3, hy4, hy5⟩, hf1, hf2⟩ := boxZ hbl2; clear hb2 hbl2)
          go_roundg (l0.length - (k + 1))
          case measure => omega
          case rel =>
            refine ⟨k + 1, by omega, by omega, by go_num, ⟨?_⟩, ⟨HB.out.trans (HB2.out.mono HB.out.size)⟩⟩
            rw [HTK.out, if_neg (by simp [HU.out]), List.append_nil]
            exact Kd.R_below HR.out HB2.out
      · have hltz : ¬ (k : Int) < (l0.length : Int) := by omega
        obtain rfl : k = l0.length := by omega
        rw [List.take_length] at HR
        have HTL := Aside0.mk (show (threatB b l0 l1).length ≤ 1000000 from Nat.le_trans (thr_len b l0 l1 HALL.out) (Nat.mul_le_mul_right 1000 hn))
        have hrow : wr.ownsRow w.heap.size 3 1 u7 (threatB b l0 l1).length ((threatB b l0 l1).map (Value.int .i64)) := Kd.own_of_R HR.out
        have HROW := Aside0.mk hrow
        clear hrow
        go_wp2_with (first
          | (go_at_call 47; refine (Help.sort_own HROW.out (by have := HTL.out; omega)).mono ?_; rintro e w2 ⟨rfl, hg2, ho2⟩; have HG2 := Aside0.mk hg2; have HO2 := Aside0.mk ho2; clear hg2 ho2)
          | (go_at_call 48; refine (Help.compact_own (by rw [List.length_mergeSort]; exact HO2.out) (by rw [List.length_mergeSort]; have := HTL.out; omega)).mono ?_; rintro e w3 ⟨v3, rfl, hg3, hv3, ho3⟩))
        go_ret
        refine ⟨v3, rfl, ?_, ?_⟩
        · rw [Help.compact_sort] at ho3
          exact Help.int_own ho3
        · exact (HB.out.grown HG2.out HB.out.size (own_base HROW.out)).grown hg3 (Nat.le_trans HB.out.size HG2.out.size) (own_base HO2.out)

theorem avalanche_Zones.calls (A0 : Option Addr) (c0 : Nat) (l0 : List (S34)) (A1 : Option Addr) (c1 : Nat) (l1 : List Int) (r : List Int) (w : World) (hr0 : Kd.C k34 w A0 l0.length l0) (hc0 : l0.length ≤ c0) (hr1 : Kd.C (Kd.int .i64) w A1 l1.length l1) (hc1 : l1.length ≤ c1) (h : avalanche_Zones.f l0 l1 = some r) :
    Calls Try.prog 25 #[.slice A0 l0.length c0, .slice A1 l1.length c1] w fun e w' => ∃ v0_ : Value, e = .returned (v0_) ∧ Kd.R (Kd.int .i64) 3 w' w.heap.size (fun _ => True) v0_ r ∧ Below w.heap.size w w' := by
  unfold avalanche_Zones.f at h
  split at h
  · rename_i hf
    injection h with h
    subst h
    have hT := Aside0.mk (threatened true 40 (.inl ⟨rfl, rfl⟩) A0 c0 l0 A1 c1 l1 w hr0 hr1 hc1 hf)
    clear hr0 hr1 hc1 hc0 hf
    go_enter Try.func25, Try.ntmps25
    go_wp2_with (go_at_call 39; refine hT.out.mono ?_; rintro e w' ⟨v, rfl, hR, hB⟩)
    go_ret
    exact ⟨v, rfl, hR, hB⟩
  · cases h
theorem avalanche_Lifts.calls (A0 : Option Addr) (c0 : Nat) (l0 : List (S34)) (A1 : Option Addr) (c1 : Nat) (l1 : List Int) (r : List Int) (w : World) (hr0 : Kd.C k34 w A0 l0.length l0) (hc0 : l0.length ≤ c0) (hr1 : Kd.C (Kd.int .i64) w A1 l1.length l1) (hc1 : l1.length ≤ c1) (h : avalanche_Lifts.f l0 l1 = some r) :
    Calls Try.prog 27 #[.slice A0 l0.length c0, .slice A1 l1.length c1] w fun e w' => ∃ v0_ : Value, e = .returned (v0_) ∧ Kd.R (Kd.int .i64) 3 w' w.heap.size (fun _ => True) v0_ r ∧ Below w.heap.size w w' := by
  unfold avalanche_Lifts.f at h
  split at h
  · rename_i hf
    injection h with h
    subst h
    have hT := Aside0.mk (threatened false 42 (.inr ⟨rfl, rfl⟩) A0 c0 l0 A1 c1 l1 w hr0 hr1 hc1 hf)
    clear hr0 hr1 hc1 hc0 hf
    go_enter Try.func27, Try.ntmps27
    go_wp2_with (go_at_call 39; refine hT.out.mono ?_; rintro e w' ⟨v, rfl, hR, hB⟩)
    go_ret
    exact ⟨v, rfl, hR, hB⟩
  · cases h
end Go.Proofs.Ytfjnpdgjigkbcaa.PAll
