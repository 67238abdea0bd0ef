/- avalanche.find returns the index of the first path with an ID, or -1. No condition. -/
import Derived.Test.YtfjnpdgjigkbcaaPAllx0
import Derived.Test.YtfjnpdgjigkbcaaGHelp
namespace Go.Proofs.Ytfjnpdgjigkbcaa.PAll
open Go.RowKit Go.Proofs.YtfjnpdgjigkbcaaW.PrintWords Go.Proofs.YtfjnpdgjigkbcaaW.PrintLast Go.Proofs.YtfjnpdgjigkbcaaW.PrintMore
set_option linter.unusedVariables false
set_option linter.unusedSimpArgs false

def findAt : List S34 → Int → Int → Int
  | [], _, _ => -1
  | s :: r, id, i => if s.f0 = id then i else findAt r id (i + 1)
def avalanche_find.f (l0 : List (S34)) (a1 : Int) : Option (Int) := some (findAt l0 a1 0)

theorem find1 (B : Nat) (id : Int) (f0 f3 f4 f5 : Int) (v1 v2 : Value) (W : World) (hc : W.cell? ⟨B, 0, none⟩ = some (.int .i64 id)) :
    Calls Try.prog 44 #[.agg #[.int .i64 f0, v1, v2, .int .i64 f3, .int .i64 f4, .int .i64 f5], .pointer (some ⟨B, 0, none⟩)] W fun e w' => e = .returned (.bool (decide (f0 = id))) ∧ Below W.heap.size W w' := by
  have hc2 : (W.alloc (.cells #[.int .i64 f0, v1, v2, .int .i64 f3, .int .i64 f4, .int .i64 f5] 34)).cell? ⟨B, 0, none⟩ = some (.int .i64 id) := pw_cell_below (below_alloc (Below.refl _ _) _) hc
  clear hc
  have hu34 := Try.underlying34
  go_enter Try.func44, Try.ntmps44
  go_wp2
  go_ret
  exact ⟨rfl, below_alloc (Below.refl _ _) _⟩

set_option maxHeartbeats 1000000 in
theorem indexFunc (B : Nat) (id : Int) (A : Option Addr) (c : Nat) (l : List S34) (w : World) (hC : Kd.C k34 w A l.length l) (hc : w.cell? ⟨B, 0, none⟩ = some (.int .i64 id)) :
    Calls Try.prog 43 #[.slice A l.length c, .func (.func 44) #[] #[.pointer (some ⟨B, 0, none⟩)]] w fun e w' => e = .returned (.int .i64 (findAt l id 0)) ∧ Below w.heap.size w w' := by
  have hu34 := Try.underlying34
  have hmax := Kd.C_max hC
  have HC := Aside0.mk hC
  have HCC := Aside0.mk hc
  clear hC hc
  go_enter Try.func43, Try.ntmps43
  go_wp2
  go_loopg [5, 8] l.length (fun gg _ s8 wr => ∃ kk : Nat, kk ≤ l.length ∧ l.length - kk ≤ gg ∧ s8 = .int .i64 kk ∧ Aside0 (Below w.heap.size w wr) ∧ Aside0 (findAt l id 0 = findAt (l.drop kk) id kk))
  case atStart => exact ⟨0, Nat.zero_le _, by omega, rfl, ⟨Below.refl _ w⟩, ⟨by simp⟩⟩
  case round =>
    obtain ⟨kk, hkk, hg, rfl, BW, HA⟩ := hrel
    by_cases hlt : kk < l.length
    · have hltz : (kk : Int) < (l.length : Int) := by omega
      obtain ⟨ad, A1, c1, A2, c2, rfl, hx0, hx1, hx2, hx3, hx4, hx5, _⟩ := at_T34 (Kd.C_below HC.out BW.out) (kk : Int) (by omega) (by omega)
      rw [Int.toNat_natCast] at hx0 hx1 hx2 hx3 hx4 hx5
      have hcell := pw_cell_below BW.out HCC.out
      obtain ⟨g, hgd⟩ : ∃ g, g = rd_T34 l (kk : Int) := ⟨_, rfl⟩
      rw [← hgd] at hx0 hx1 hx2 hx3 hx4 hx5
      have hgl : l.drop kk = g :: l.drop (kk + 1) := by
        rw [hgd, List.drop_eq_getElem_cons hlt]; simp [rd_T34, List.getD_eq_getElem?_getD, hlt]
      have HG := Aside0.mk hgl
      have hcall := find1 B id g.f0 g.f3 g.f4 g.f5 (.slice A1 g.f1.length c1) (.slice A2 g.f2.length c2) wr hcell
      clear hcell hgl hgd
      cases hq : decide (g.f0 = id) with
      | true =>
        rw [hq] at hcall
        have HQ := Aside0.mk hq
        clear hq
        go_wp2_with (go_at_call 44; refine hcall.mono ?_; rintro e w' ⟨rfl, hb'⟩)
        go_ret
        refine ⟨?_, BW.out.trans (hb'.mono BW.out.size)⟩
        rw [HA.out, HG.out]
        simp only [findAt, if_pos (of_decide_eq_true HQ.out)]
        rfl
      | false =>
        rw [hq] at hcall
        have HQ := Aside0.mk hq
        clear hq
        go_wp2_with (go_at_call 44; refine hcall.mono ?_; rintro e w' ⟨rfl, hb'⟩)
        go_roundg (l.length - (kk + 1))
        case measure => omega
        case rel =>
          refine ⟨kk + 1, by omega, by omega, by go_num, ⟨BW.out.trans (hb'.mono BW.out.size)⟩, ⟨?_⟩⟩
          rw [HA.out, HG.out]
          simp only [findAt, if_neg (of_decide_eq_false HQ.out)]
          rfl
    · have hltz : ¬ (kk : Int) < (l.length : Int) := by omega
      obtain rfl : kk = l.length := by omega
      go_wp2
      go_ret
      refine ⟨?_, BW.out⟩
      rw [HA.out, List.drop_length]; rfl

theorem avalanche_find.calls (A0 : Option Addr) (c0 : Nat) (l0 : List (S34)) (a1 : Int) (r : Int) (w : World) (hr0 : Kd.C k34 w A0 l0.length l0) (hc0 : l0.length ≤ c0) (h : avalanche_find.f l0 a1 = some r) :
    Calls Try.prog 34 #[.slice A0 l0.length c0, .int .i64 a1] w fun e w' => e = .returned (.int .i64 r) ∧ Below w.heap.size w w' := by
  unfold avalanche_find.f at h
  injection h with h
  subst h
  have hC := Aside0.mk (Kd.C_alloc hr0 (.cells #[.int .i64 a1] 3))
  clear hr0
  go_enter Try.func34, Try.ntmps34
  go_wp2_with (go_at_call 43; refine (indexFunc _ _ _ _ _ _ hC.out (by have h_ := heap_alloc_new w (.cells #[.int .i64 a1] 3); unfold World.cell?; rw [h_]; rfl)).mono ?_; rintro e w' ⟨rfl, hb'⟩)
  go_ret
  exact ⟨rfl, (below_alloc (Below.refl _ _) _).trans (hb'.mono (by simp))⟩
end Go.Proofs.Ytfjnpdgjigkbcaa.PAll
