/- clock.In: is a time within one of the opening hours. No condition. -/
import Derived.Test.YtbfflokkdahjjaaPAllB
import Derived.Deep.RegionWith
import Derived.Test.YtbfflokkdahjjaaGBox
namespace Go.Proofs.Ytbfflokkdahjjaa.PAll
open Go.RowKit Go.Proofs.YtbfflokkdahjjaaW.PrintWords Go.Proofs.YtbfflokkdahjjaaW.PrintLast Go.Proofs.YtbfflokkdahjjaaW.PrintMore
set_option linter.unusedVariables false
set_option linter.unusedSimpArgs false
def onDay (d wd : Int) : Bool := (Go.bits .and .i64 (shr .i64 d wd) 1) == 1
def onT (wd sec : Int) (h : S73) : Bool := onDay h.f0 wd && (decide (h.f1 ≤ sec) && decide (sec < h.f2))
theorem in1 (B C : Nat) (wd sec : Int) (f0 f1 f2 : Int) (W : World) (h0 : 0 ≤ wd) (hc : W.cell? ⟨B, 0, none⟩ = some (.int .i64 wd)) (hd : W.cell? ⟨C, 0, none⟩ = some (.int .i64 sec)) :
    Calls Try.prog 49 #[.agg #[.int .i64 f0, .int .i64 f1, .int .i64 f2], .pointer (some ⟨B, 0, none⟩), .pointer (some ⟨C, 0, none⟩)] W fun e w' => e = .returned (.bool (onT wd sec ⟨f0, f1, f2⟩)) ∧ Below W.heap.size W w' := by
  have hb := below_alloc (Below.refl W.heap.size W) (.cells #[.int .i64 f0, .int .i64 f1, .int .i64 f2] 73)
  have hc2 := pw_cell_below hb hc
  have hd2 := pw_cell_below hb hd
  have HC := Aside0.mk (show clock_on.f f0 f1 f2 wd = some (onDay f0 wd) from if_pos h0)
  have HB := Aside0.mk hb
  have HCC := Aside0.mk hc2
  have HDD := Aside0.mk hd2
  have hu := Try.underlying73
  obtain ⟨bd, hbd⟩ : ∃ b, b = onDay f0 wd := ⟨_, rfl⟩
  rw [← hbd] at HC
  have HBD := Aside0.mk hbd
  clear hc hd h0 hbd hb
  go_enter Try.func49, Try.ntmps49
  go_wp2_with (go_at_call 50; refine (clock_on.calls f0 f1 f2 wd _ _ HC.out).mono ?_; rintro e w1 ⟨rfl, hb1⟩; have e0 := pw_cell_below hb1 (HCC.out); have e1 := pw_cell_below hb1 HDD.out; have z := At.below (At.new W _ _ W.heap.size rfl) hb1; have z1 := z 1 _ rfl; have z2 := z 2 _ rfl; clear z; have HB1 := Aside0.mk (HB.out.trans (hb1.mono HB.out.size)); clear hb1)
  all_goals
    go_ret
    refine ⟨?_, HB1.out⟩
    unfold onT
    rw [← HBD.out]
    first | (simp [*]; done) | (simp [*]; omega)
theorem any_drop (p : S73 → Bool) (l : List (S73)) (k : Nat) (x : S73) (h : l.drop k = x :: l.drop (k + 1)) : (l.drop k).any p = (p x || (l.drop (k + 1)).any p) := by
  rw [h, List.any_cons]
/-- slices.IndexFunc with the closure of clock.In: not below 0 exactly if one of the hours applies. -/
theorem indexIn (B C : Nat) (wd sec : Int) (A : Option Addr) (c : Nat) (l : List (S73)) (w : World) (h0 : 0 ≤ wd) (hC : Kd.C k73 w A l.length l) (hc : w.cell? ⟨B, 0, none⟩ = some (.int .i64 wd)) (hd : w.cell? ⟨C, 0, none⟩ = some (.int .i64 sec)) :
    Calls Try.prog 52 #[.slice A l.length c, .func (.func 49) #[] #[.pointer (some ⟨B, 0, none⟩), .pointer (some ⟨C, 0, none⟩)]] w fun e w' => (∃ i : Int, e = .returned (.int .i64 i) ∧ decide (i ≥ 0) = l.any (onT wd sec)) ∧ Below w.heap.size w w' := by
  have hu := Try.underlying73
  have hmax := Kd.C_max hC
  have HC := Aside0.mk hC
  have HCC := Aside0.mk hc
  have HDD := Aside0.mk hd
  have HW := Aside0.mk h0
  clear hC hc hd h0
  go_enter Try.func52, Try.ntmps52
  go_wp2
  go_loopg [5, 8] l.length (fun gg _ s8 wr => ∃ kk : Nat, kk ≤ l.length ∧ l.length - kk ≤ gg ∧ s8 = .int .i64 kk ∧ Aside0 (Below w.heap.size w wr) ∧ Aside0 (l.any (onT wd sec) = (l.drop kk).any (onT wd sec)))
  case atStart => exact ⟨0, Nat.zero_le _, by omega, rfl, ⟨Below.refl _ w⟩, ⟨by simp⟩⟩
  case round =>
    obtain ⟨kk, hkk, hg, rfl, BW, HA⟩ := hrel
    by_cases hlt : kk < l.length
    · have hltz : (kk : Int) < (l.length : Int) := by omega
      obtain ⟨ad, rfl, hx0, hx1, hx2⟩ := at_T73 (Kd.C_below HC.out BW.out) (kk : Int) (by omega) (by omega)
      rw [Int.toNat_natCast] at hx0 hx1 hx2
      obtain ⟨g, hgd⟩ : ∃ g, g = rd_T73 l (kk : Int) := ⟨_, rfl⟩
      rw [← hgd] at hx0 hx1 hx2
      have hgl : l.drop kk = g :: l.drop (kk + 1) := by
        rw [hgd, List.drop_eq_getElem_cons hlt]; simp [rd_T73, List.getD_eq_getElem?_getD, hlt]
      have HG := Aside0.mk (any_drop (onT wd sec) l kk g hgl)
      have hcall := in1 B C wd sec g.f0 g.f1 g.f2 wr HW.out (pw_cell_below BW.out HCC.out) (pw_cell_below BW.out HDD.out)
      clear hgl hgd
      cases hq : onT wd sec ⟨g.f0, g.f1, g.f2⟩ with
      | true =>
        rw [hq] at hcall
        have HQ := Aside0.mk hq
        clear hq
        go_wp2_with (go_at_call 49; refine hcall.mono ?_; rintro e w' ⟨rfl, hb'⟩)
        go_ret
        refine ⟨⟨_, rfl, ?_⟩, BW.out.trans (hb'.mono BW.out.size)⟩
        rw [HA.out, HG.out, show onT wd sec g = true from HQ.out]
        simp
      | false =>
        rw [hq] at hcall
        have HQ := Aside0.mk hq
        clear hq
        go_wp2_with (go_at_call 49; refine hcall.mono ?_; rintro e w' ⟨rfl, hb'⟩)
        go_roundg (l.length - (kk + 1))
        case measure => omega
        case rel =>
          refine ⟨kk + 1, by omega, by omega, by go_num, ⟨BW.out.trans (hb'.mono BW.out.size)⟩, ⟨?_⟩⟩
          rw [HA.out, HG.out, show onT wd sec g = false from HQ.out]
          simp
    · have hltz : ¬ (kk : Int) < (l.length : Int) := by omega
      obtain rfl : kk = l.length := by omega
      go_wp2
      go_ret
      refine ⟨⟨_, rfl, ?_⟩, BW.out⟩
      rw [HA.out, List.drop_length]; rfl
theorem containsIn (B C : Nat) (wd sec : Int) (A : Option Addr) (c : Nat) (l : List (S73)) (w : World) (h0 : 0 ≤ wd) (hC : Kd.C k73 w A l.length l) (hc : w.cell? ⟨B, 0, none⟩ = some (.int .i64 wd)) (hd : w.cell? ⟨C, 0, none⟩ = some (.int .i64 sec)) :
    Calls Try.prog 48 #[.slice A l.length c, .func (.func 49) #[] #[.pointer (some ⟨B, 0, none⟩), .pointer (some ⟨C, 0, none⟩)]] w fun e w' => e = .returned (.bool (l.any (onT wd sec))) ∧ Below w.heap.size w w' := by
  have HI := Aside0.mk (indexIn B C wd sec A c l w h0 hC hc hd)
  clear h0 hC hc hd
  go_enter Try.func48, Try.ntmps48
  go_wp2_with (go_at_call 52; refine HI.out.mono ?_; rintro e w' ⟨⟨i, rfl, hi⟩, hb'⟩; have HQ := Aside0.mk hi; clear hi)
  all_goals
    go_ret
    refine ⟨?_, hb'⟩
    rw [← HQ.out]
    simp [*]
def inHours (l : List (S73)) (t : Int) : Bool := decide (0 ≤ t ∧ t ≤ 20000000) && l.any (onT (t / 86400 % 7) (t % 86400))
theorem isTime_c (t : Int) (w : World) (b : Bool) (hb : b = decide (0 ≤ t ∧ t ≤ 20000000)) : Calls Try.prog 45 #[.int .i64 t] w fun e w' => e = .returned (.bool b) ∧ Drawn0 w w' :=
  clock_isTime.calls t _ w (by
    subst hb
    unfold clock_isTime.f
    by_cases h : t ≥ 0
    · rw [if_pos h]; simp [h]
    · rw [if_neg h]; simp [h])
theorem tm (t : Int) (h : 0 ≤ t ∧ t ≤ 20000000) : clock_isTime.f t = some true ∧ wrap64 (Int.tdiv t 86400) = t / 86400 ∧ Int.tmod (t / 86400) 7 = t / 86400 % 7 ∧ Int.tmod t 86400 = t % 86400 := by
  refine ⟨?_, ?_, ?_, ?_⟩
  · unfold clock_isTime.f; rw [if_pos h.1, decide_eq_true h.2]
  · rw [Int.tdiv_eq_ediv_of_nonneg h.1]; unfold wrap64; omega
  · rw [Int.tmod_eq_emod_of_nonneg (by omega)]
  · rw [Int.tmod_eq_emod_of_nonneg h.1]
theorem weekday_c (t : Int) (w : World) (h : 0 ≤ t ∧ t ≤ 20000000) : Calls Try.prog 46 #[.int .i64 t] w fun e w' => e = .returned (.int .i64 (t / 86400 % 7)) ∧ Drawn0 w w' :=
  clock_Weekday.calls t _ w (by unfold clock_Weekday.f; obtain ⟨h1, h2, h3, h4⟩ := tm t h; rw [h1, h2, h3]; rfl)
theorem second_c (t : Int) (w : World) (h : 0 ≤ t ∧ t ≤ 20000000) : Calls Try.prog 47 #[.int .i64 t] w fun e w' => e = .returned (.int .i64 (t % 86400)) ∧ Drawn0 w w' :=
  clock_Second.calls t _ w (by unfold clock_Second.f; obtain ⟨h1, h2, h3, h4⟩ := tm t h; rw [h1, h4]; rfl)
theorem in_c (A : Option Addr) (c : Nat) (l : List (S73)) (t : Int) (w : World) (hC : Kd.C k73 w A l.length l) :
    Calls Try.prog 38 #[.slice A l.length c, .int .i64 t] w fun e w' => e = .returned (.bool (inHours l t)) ∧ Below w.heap.size w w' := by
  have HC := Aside0.mk hC
  clear hC
  by_cases ht : 0 ≤ t ∧ t ≤ 20000000
  case neg =>
    have HT := Aside0.mk ht
    rw [show inHours l t = false from by unfold inHours; rw [decide_eq_false ht]; rfl]
    clear ht
    go_enter Try.func38, Try.ntmps38
    go_wp2_with (go_at_call 45; refine (isTime_c t _ false (decide_eq_false HT.out).symm).mono ?_; rintro e w1 ⟨rfl, hd⟩; have HD := Aside0.mk hd; clear hd)
    go_ret
    exact ⟨rfl, HD.out.below⟩
  case pos =>
    have HT := Aside0.mk ht
    rw [show inHours l t = l.any (onT (t / 86400 % 7) (t % 86400)) from by unfold inHours; rw [decide_eq_true ht]; rfl]
    clear ht
    go_enter Try.func38, Try.ntmps38
    have HB := Aside0.mk (Below.refl w.heap.size w)
    go_wp2_with (first
      | (go_at_call 45; refine (isTime_c t _ true (decide_eq_true HT.out).symm).mono ?_; rintro e w1 ⟨rfl, hd⟩; have HB := Aside0.mk (HB.out.trans (hd.below.mono HB.out.size)); clear hd)
      | (go_at_call 46; refine (weekday_c t _ HT.out).mono ?_; rintro e w2 ⟨rfl, hd⟩; have HB := Aside0.mk (HB.out.trans (hd.below.mono HB.out.size)); clear hd)
      | (go_at_call 47; refine (second_c t _ HT.out).mono ?_; rintro e w3 ⟨rfl, hd⟩; have HB := Aside0.mk (HB.out.trans (hd.below.mono HB.out.size)); clear hd)
      | (go_at_call 48; have hb4 := HB.out.trans ((below_alloc (below_alloc (Below.refl w3.heap.size w3) (.cells #[.int .i64 (t / 86400 % 7)] 3)) (.cells #[.int .i64 (t % 86400)] 3)).mono HB.out.size); have HB4 := Aside0.mk hb4; refine (containsIn w3.heap.size (w3.heap.size + 1) _ _ _ c l _ (by have := HT.out; omega) (Kd.C_below HC.out hb4) ((At.new w3 _ _ w3.heap.size rfl).alloc _ 0 _ rfl) (At.new (w3.alloc (.cells #[.int .i64 (t / 86400 % 7)] 3)) _ _ (w3.heap.size + 1) (by simp) 0 _ rfl)).mono ?_; clear hb4; rintro e w5 ⟨rfl, hb5⟩; have HB5 := Aside0.mk (HB4.out.trans (hb5.mono HB4.out.size)); clear hb5))
    go_ret
    exact ⟨rfl, HB5.out⟩
end Go.Proofs.Ytbfflokkdahjjaa.PAll
