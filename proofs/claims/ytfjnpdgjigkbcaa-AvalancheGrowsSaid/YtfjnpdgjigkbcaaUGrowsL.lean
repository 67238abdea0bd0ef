/- AvalancheGrows: what grows never makes a path stable. Conditions: the numbers of the levels are whole numbers of 64 bits, those of up are bytes. -/
import Derived.Test.YtfjnpdgjigkbcaaPAllx31
import Derived.Test.YtfjnpdgjigkbcaaPAllx32
import Derived.Test.YtfjnpdgjigkbcaaUGrow
import Derived.Test.YtfjnpdgjigkbcaaUFine
namespace Go.Proofs.Ytfjnpdgjigkbcaa.Pure
open Go.RowKit Go.Proofs.Ytfjnpdgjigkbcaa.PAll Go.Proofs.YtfjnpdgjigkbcaaW.PrintWords Go.Proofs.YtfjnpdgjigkbcaaW.PrintLast Go.Proofs.YtfjnpdgjigkbcaaW.PrintMore
set_option linter.unusedVariables false
set_option linter.unusedSimpArgs false
theorem part_l1 (a b : List Int) (i : Nat) (hi : i < a.length) (hb : b.length ≤ 1000000) (hia : a.length ≤ 1000000) (r : Bool) (hnext : Ev (fun k => skiarealaw50_part.l0 k a b ((i + 1 : Nat) : Int)) r) : ∀ (d j : Nat), j + d = b.length → ∀ inn : Bool, inn = true ∨ a[i] ∈ b.drop j → Ev (fun k => skiarealaw50_part.l1 k a b i inn j) r := by
  intro d
  induction d with
  | zero =>
    intro j hj inn h
    rw [List.drop_of_length_le (by omega)] at h
    have h : inn = true := by simpa using h
    subst h
    exact Ev.step (f := fun k => skiarealaw50_part.l0 k a b ((i + 1 : Nat) : Int)) (fun k => by simp only [skiarealaw50_part.l1]; rw [if_neg (by omega), if_pos trivial, wr1 (by omega)]) hnext
  | succ d ih =>
    intro j hj inn h
    have hlt : j < b.length := by omega
    cases inn with
    | true => exact Ev.step (f := fun k => skiarealaw50_part.l1 k a b i true ((j + 1 : Nat) : Int)) (fun k => by simp only [skiarealaw50_part.l1]; rw [if_pos (by omega), if_pos trivial, wr1 (by omega)]) (ih (j + 1) (by omega) true (.inl rfl))
    | false =>
      refine Ev.step (f := fun k => skiarealaw50_part.l1 k a b i (a[i] == b[j]) ((j + 1 : Nat) : Int)) (fun k => by simp only [skiarealaw50_part.l1]; rw [if_pos (by omega), if_neg (by decide), if_pos (by omega), if_pos (by omega), if_pos (by omega), rd_nat _ _ hi, rd_nat _ _ hlt, wr1 (by omega)]) (ih (j + 1) (by omega) _ ?_)
      rcases h with h | h
      · cases h
      · rw [List.drop_eq_getElem_cons hlt] at h
        rcases List.mem_cons.1 h with h | h
        · exact .inl (beq_iff_eq.2 h)
        · exact .inr h
theorem part_l0 (a b : List Int) (hb : b.length ≤ 1000000) (hia : a.length ≤ 1000000) (h : ∀ x ∈ a, x ∈ b) : ∀ (d i : Nat), i + d = a.length → Ev (fun k => skiarealaw50_part.l0 k a b i) true := by
  intro d
  induction d with
  | zero =>
    intro i hi
    exact Ev.step (f := fun _ => some true) (fun k => by simp only [skiarealaw50_part.l0]; rw [if_neg (by omega)]) (Ev.now _)
  | succ d ih =>
    intro i hi
    have hlt : i < a.length := by omega
    exact Ev.step (f := fun k => skiarealaw50_part.l1 k a b i false ((0 : Nat) : Int)) (fun k => by simp only [skiarealaw50_part.l0]; rw [if_pos (by omega)]; rfl) (part_l1 a b i hlt hb hia true (ih (i + 1) (by omega)) b.length 0 (by omega) false (.inr (by rw [List.drop_zero]; exact h _ (List.getElem_mem hlt))))
theorem part (a b : List Int) (hb : b.length ≤ 1000000) (hia : a.length ≤ 1000000) (h : ∀ x ∈ a, x ∈ b) : Ev (fun k => skiarealaw50_part.f k a b) true :=
  Ev.cg (part_l0 a b hb hia h a.length 0 (by omega)) (fun k => rfl)
/-! ### the higher levels -/
def highAt (lv up : List Int) (i : Nat) : Int := if i < lv.length then (if i < up.length then (if rd lv i < 1000 then wrap64 (rd lv i + wrap64 (rd up i)) else rd lv i) else rd lv i) else wrap64 (wrap64 (rd up i))
def highN (lv up : List Int) : Nat := max lv.length up.length
def highS (lv up : List Int) : List Int := (List.range (highN lv up)).map (highAt lv up)
theorem high_len (lv up : List Int) : (highS lv up).length = highN lv up := by simp [highS]
theorem high_rd (lv up : List Int) (i : Nat) (h : i < highN lv up) : rd (highS lv up) (i : Int) = highAt lv up i := by
  rw [rd_nat _ _ (by rw [high_len]; exact h)]
  simp [highS]
theorem byte_at {up : List Int} (hu : ∀ x ∈ up, (Lit.int .u8 x).wf = true) (i : Nat) (h : i < up.length) : 0 ≤ rd up i ∧ rd up i ≤ 255 := by
  rw [rd_nat _ _ h]
  exact bounds_u8 (hu _ (List.getElem_mem h))
theorem word_at {lv : List Int} (hw : ∀ x ∈ lv, (Lit.int .i64 x).wf = true) (i : Nat) (h : i < lv.length) : -9223372036854775808 ≤ rd lv i ∧ rd lv i ≤ 9223372036854775807 := by
  rw [rd_nat _ _ h]
  exact bounds_i64 (hw _ (List.getElem_mem h))
theorem high_ge {lv up : List Int} (hw : ∀ x ∈ lv, (Lit.int .i64 x).wf = true) (hu : ∀ x ∈ up, (Lit.int .u8 x).wf = true) (z : Int) (hz : 1 ≤ z) : lev1 lv z ≤ lev1 (highS lv up) z := by
  obtain ⟨i, rfl⟩ : ∃ i : Nat, z = (i : Int) + 1 := ⟨(z - 1).toNat, by omega⟩
  unfold lev1
  rw [high_len, show (i : Int) + 1 - 1 = (i : Int) by omega]
  have hm : highN lv up = max lv.length up.length := rfl
  by_cases c : (i : Int) + 1 ≤ ((highN lv up : Nat) : Int)
  · rw [if_pos c, high_rd lv up i (by omega)]
    unfold highAt
    by_cases c1 : i < lv.length
    · rw [if_pos (by omega), if_pos c1]
      have h1 := word_at hw i c1
      by_cases c2 : i < up.length
      · rw [if_pos c2]
        have h2 := byte_at hu i c2
        by_cases c3 : rd lv i < 1000
        · rw [if_pos c3, wr_small (x := rd up i) (by omega) (by omega)]
          have : wrap64 (rd lv i + rd up i) = rd lv i + rd up i := by unfold wrap64; omega
          omega
        · rw [if_neg c3]; exact Int.le_refl _
      · rw [if_neg c2]; exact Int.le_refl _
    · rw [if_neg (by omega), if_neg c1]
      have h2 := byte_at hu i (by omega)
      rw [wr_small (x := rd up i) (by omega) (by omega), wr_small (by omega) (by omega)]
      omega
  · rw [if_neg c, if_neg (by omega)]; exact Int.le_refl _
theorem range_next (f : Nat → Int) (i : Nat) : (List.range i).map f ++ [f i] = (List.range (i + 1)).map f := by rw [List.range_succ, List.map_append]; rfl
theorem grows_l0 (l x : List S34) (lv up : List Int) (h1 : lv.length ≤ 100) (h2 : up.length ≤ 100) (r : Bool) (hnext : Ev (fun k => skiarealaw50_AvalancheGrows.l1 k l lv x (highS lv up) 0) r) : ∀ (d i : Nat), i + d = highN lv up → Ev (fun k => skiarealaw50_AvalancheGrows.l0 k l lv up x ((List.range i).map (highAt lv up)) i) r := by
  intro d
  have hm : highN lv up = max lv.length up.length := rfl
  induction d with
  | zero =>
    intro i hi
    obtain rfl : i = highN lv up := by omega
    exact Ev.step (f := fun k => skiarealaw50_AvalancheGrows.l1 k l lv x (highS lv up) 0) (fun k => by simp only [skiarealaw50_AvalancheGrows.l0]; rw [if_neg (by omega), if_neg (by omega)]; rfl) hnext
  | succ d ih =>
    intro i hi
    have hlen : ((List.range i).map (highAt lv up)).length < 17592186044416 := by simp; omega
    refine Ev.step (f := fun k => skiarealaw50_AvalancheGrows.l0 k l lv up x ((List.range (i + 1)).map (highAt lv up)) ((i + 1 : Nat) : Int)) (fun k => ?_) (ih (i + 1) (by omega))
    rw [← range_next]
    have hlen' := hlen
    simp only [skiarealaw50_AvalancheGrows.l0]
    generalize (List.range i).map (highAt lv up) = acc at hlen ⊢
    by_cases c1 : i < lv.length
    · rw [if_pos (show (i : Int) < (lv.length : Int) by omega), if_pos (show (0 : Int) ≤ (i : Int) by omega)]
      by_cases c2 : i < up.length
      · rw [if_pos (show (i : Int) < (up.length : Int) by omega)]
        by_cases c3 : rd lv i < 1000
        · have e : highAt lv up i = wrap64 (rd lv i + wrap64 (rd up i)) := by unfold highAt; rw [if_pos c1, if_pos c2, if_pos c3]
          rw [if_pos c3, if_pos hlen, wr1 (by omega), e]
        · have e : highAt lv up i = rd lv i := by unfold highAt; rw [if_pos c1, if_pos c2, if_neg c3]
          rw [if_neg c3, if_pos hlen, wr1 (by omega), e]
      · have e : highAt lv up i = rd lv i := by unfold highAt; rw [if_pos c1, if_neg c2]
        rw [if_neg (show ¬ (i : Int) < (up.length : Int) by omega), if_pos hlen, wr1 (by omega), e]
    · have e : highAt lv up i = wrap64 (wrap64 (rd up i)) := by unfold highAt; rw [if_neg c1]
      rw [if_neg (show ¬ (i : Int) < (lv.length : Int) by omega), if_pos (show (i : Int) < (up.length : Int) by omega), if_pos (by decide), if_pos (by omega), if_pos hlen, wr1 (by omega), e]
/-! ### the grown paths -/
theorem more_nonneg {fresh gust : Int} (h1 : 0 ≤ fresh) : 0 ≤ more fresh gust := by
  unfold more
  split <;> omega
theorem grown_small (m : Int) (l : List S34) : smallB (l.map (grown m)) = smallB l := by
  unfold smallB
  rw [List.length_map, List.all_map]
  rfl
theorem grown_right {l : List S34} (h : Right l) {m : Int} (hm : 0 ≤ m) : Right (l.map (grown m)) := by
  refine ⟨by rw [List.length_map]; exact h.1, fun w hw => ?_, ?_⟩
  · obtain ⟨x, hx, rfl⟩ := List.mem_map.1 hw
    refine ⟨?_, (h.2.1 x hx).2⟩
    have hn := right_nums h hx
    unfold badB
    refine decide_eq_false (fun hc => hc ?_)
    unfold grown
    dsimp only
    split <;> omega
  · exact List.pairwise_map.2 h.2.2
theorem unst_grown {lv up : List Int} (hw : ∀ x ∈ lv, (Lit.int .i64 x).wf = true) (hu : ∀ x ∈ up, (Lit.int .u8 x).wf = true) {m : Int} (hm : 0 ≤ m) (x : S34) (hx : Fine x) (hn : 4 ≤ x.f3 ∧ x.f3 ≤ 100000) (h4 : x.f4 ≤ 100000) (h : unstB lv x = true) : unstB (highS lv up) (grown m x) = true := by
  refine unst_mono x (grown m x) lv (highS lv up) rfl ?_ (lev_mono _ _ _ (fun z hz => high_ge hw hu z (hx.2.2.2 z hz))) hn h
  unfold grown
  dsimp only
  split <;> omega
theorem thr_grown (b : Bool) {lv up : List Int} (hw : ∀ x ∈ lv, (Lit.int .i64 x).wf = true) (hu : ∀ x ∈ up, (Lit.int .u8 x).wf = true) {m : Int} (hm : 0 ≤ m) (l : List S34) (hf : FineL l) (h4 : ∀ x ∈ l, x.f4 ≤ 100000) : ∀ z ∈ Help.sset (threatB b l lv), z ∈ Help.sset (threatB b (l.map (grown m)) (highS lv up)) := by
  intro z hz
  rw [Help.mem_sset] at hz ⊢
  unfold threatB at hz ⊢
  obtain ⟨x, hx, hzx⟩ := List.mem_flatMap.1 hz
  obtain ⟨hx, hu1⟩ := List.mem_filter.1 hx
  refine List.mem_flatMap.2 ⟨grown m x, List.mem_filter.2 ⟨List.mem_map_of_mem hx, ?_⟩, ?_⟩
  · exact unst_grown hw hu hm x (hf.2 x hx).1 (hf.2 x hx).2 (h4 x hx) hu1
  · exact hzx
theorem grows_l1 (l : List S34) (lv up : List Int) (h1 : lv.length ≤ 100) (h2 : up.length ≤ 100) (hw : ∀ x ∈ lv, (Lit.int .i64 x).wf = true) (hu : ∀ x ∈ up, (Lit.int .u8 x).wf = true) (m : Int) (hm : 0 ≤ m) (hs : smallB l = true) (hr : Right l) : ∀ (d i : Nat), i + d = l.length →
    Ev (fun k => skiarealaw50_AvalancheGrows.l1 k l lv (l.map (grown m)) (highS lv up) i) true := by
  intro d
  have hl0 := hr.1
  have hf := fine_of hs hr
  have hf2 := fine_of (l := l.map (grown m)) (by rw [grown_small]; exact hs) (grown_right hr hm)
  have h4 : ∀ x ∈ l, x.f4 ≤ 100000 := fun x hx => by have := right_nums hr hx; omega
  have hhl : (highS lv up).length ≤ 100000 := by rw [high_len]; unfold highN; omega
  induction d with
  | zero =>
    intro i hi
    refine Ev.step (f := fun k => ((avalanche_Zones.f l lv).bind fun t304 => ((avalanche_Zones.f (l.map (grown m)) (highS lv up)).bind fun t307 => ((skiarealaw50_part.f k t304 t307).bind fun t310 => (if t310 = true then ((avalanche_Lifts.f l lv).bind fun t311 => ((avalanche_Lifts.f (l.map (grown m)) (highS lv up)).bind fun t314 => ((skiarealaw50_part.f k t311 t314).bind fun t317 => (some t317)))) else (none)))))) (fun k => by simp only [skiarealaw50_AvalancheGrows.l1]; rw [if_neg (by omega)]) ?_
    rw [zones_eq hf (by omega), zones_eq hf2 hhl, lifts_eq hf (by omega), lifts_eq hf2 hhl]
    refine Ev.bind (Ev.now _) (Ev.bind (Ev.now _) (Ev.bind (part _ _ (thr_all true _ _ hf2) (thr_all true _ _ hf) (thr_grown true hw hu hm l hf h4)) ?_))
    simp only [if_true]
    exact Ev.bind (Ev.now _) (Ev.bind (Ev.now _) (Ev.bind (f := fun _ t => some t) (part _ _ (thr_all false _ _ hf2) (thr_all false _ _ hf) (thr_grown false hw hu hm l hf h4)) (Ev.now _)))
  | succ d ih =>
    intro i hi
    have hlt : i < l.length := by omega
    have hlt2 : i < (l.map (grown m)).length := by rw [List.length_map]; exact hlt
    have hx := hf.2 _ (List.getElem_mem hlt)
    have hx4 := h4 _ (List.getElem_mem hlt)
    have hg : (l.map (grown m))[i] = grown m l[i] := by simp
    have hy := hf2.2 _ (List.getElem_mem hlt2)
    rw [hg] at hy
    refine Ev.step (f := fun k => ((avalanche_Unstable.f k l[i].f0 l[i].f1 l[i].f2 l[i].f3 l[i].f4 l[i].f5 lv).bind fun t301 => (if t301 = true then ((avalanche_Unstable.f k (grown m l[i]).f0 (grown m l[i]).f1 (grown m l[i]).f2 (grown m l[i]).f3 (grown m l[i]).f4 (grown m l[i]).f5 (highS lv up)).bind fun t303 => (if t303 = true then (skiarealaw50_AvalancheGrows.l1 k l lv (l.map (grown m)) (highS lv up) ((i + 1 : Nat) : Int)) else (none))) else (skiarealaw50_AvalancheGrows.l1 k l lv (l.map (grown m)) (highS lv up) ((i + 1 : Nat) : Int))))) (fun k => by
      simp only [skiarealaw50_AvalancheGrows.l1]
      rw [if_pos (by omega), if_pos (by omega), if_pos (by omega), rdS_nat _ _ hlt, rdS_nat _ _ hlt2, hg, if_neg (show ¬ (grown m l[i]).f4 < l[i].f4 by unfold grown; dsimp only; split <;> omega), if_pos (show (grown m l[i]).f3 = l[i].f3 from rfl), wr1 (by omega)]) ?_
    refine Ev.bind (unstable _ lv hx.1 (by omega)) ?_
    cases hb : unstB lv l[i] with
    | false =>
      simp only [if_neg (show ¬ (false = true) by decide)]
      exact ih (i + 1) (by omega)
    | true =>
      simp only [if_true]
      refine Ev.bind (unstable _ (highS lv up) hy.1 hhl) ?_
      rw [unst_grown hw hu hm _ hx.1 hx.2 hx4 hb]
      simp only [if_true]
      exact ih (i + 1) (by omega)
theorem AvalancheGrows (l : List S34) (fresh gust : Int) (lv up : List Int) (hw : ∀ x ∈ lv, (Lit.int .i64 x).wf = true) (hu : ∀ x ∈ up, (Lit.int .u8 x).wf = true) : ∃ k, skiarealaw50_AvalancheGrows.f k l fresh gust lv up = some true := by
  refine Ev.rounds (Ev.cg (f := fun k => (skiarealaw50_small.f k l).bind fun t271 => (if t271 = true then ((avalanche_Right.f k l).bind fun t272 => (if t272 = 0 then (if (lv.length : Int) > 100 then (some true) else (if (up.length : Int) > 100 then (some true) else ((avalanche_Grow.f k l fresh gust).bind fun bt273 => (if bt273.2 = 0 then (if (bt273.1.length : Int) = (l.length : Int) then ((avalanche_Right.f k bt273.1).bind fun t277 => (if t277 = 0 then (skiarealaw50_AvalancheGrows.l0 k l lv up bt273.1 ([] : List Int) 0) else (none))) else (none)) else (some ((bt273.1.length : Int) == 0)))))) else (some true))) else (some true))) ?_ (fun k => rfl))
  refine Ev.bind (small l) ?_
  cases hs : smallB l with
  | false => exact Ev.now _
  | true =>
    simp only [if_true]
    have hl50 := (small_all hs).1
    refine Ev.bind (rightW l (small_short hs) (by omega)) ?_
    by_cases h0 : rightC l = 0
    · simp only [if_pos h0]
      have hr := (rightC_zero l).1 h0
      by_cases c1 : (lv.length : Int) > 100
      · simp only [if_pos c1]; exact Ev.now _
      · by_cases c2 : (up.length : Int) > 100
        · simp only [if_neg c1, if_pos c2]; exact Ev.now _
        · simp only [if_neg c1, if_neg c2]
          refine Ev.bind (growW l fresh gust hr hs) ?_
          unfold growS
          by_cases g : goodB fresh gust = true
          · rw [if_pos g]
            have hm : 0 ≤ more fresh gust := more_nonneg (by have := of_decide_eq_true g; omega)
            simp only [if_true, List.length_map]
            refine Ev.bind (rightW _ (small_short (by rw [grown_small]; exact hs)) (by rw [List.length_map]; omega)) ?_
            rw [(rightC_zero _).2 (grown_right hr hm)]
            simp only [if_true]
            have := grows_l0 l (l.map (grown (more fresh gust))) lv up (by omega) (by omega) true (by
              have := grows_l1 l lv up (by omega) (by omega) hw hu _ hm hs hr l.length 0 (by omega)
              exact this) (highN lv up) 0 (by omega)
            exact this
          · rw [if_neg g]
            exact Ev.now _
    · simp only [if_neg h0]; exact Ev.now _
end Go.Proofs.Ytfjnpdgjigkbcaa.Pure
