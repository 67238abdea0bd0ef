/- skiarearef50.Own returns the same paths in new memory, their zones and lifts as well. Condition: at most 1000 paths, with at most 1000 zones and lifts each. -/
import Derived.Test.YtfjnpdgjigkbcaaPAllx0
import Derived.Test.YtfjnpdgjigkbcaaGBase
namespace Go.Proofs.Ytfjnpdgjigkbcaa.PAll
open Go.RowKit Go.Proofs.YtfjnpdgjigkbcaaW.PrintWords Go.Proofs.YtfjnpdgjigkbcaaW.PrintLast Go.Proofs.YtfjnpdgjigkbcaaW.PrintMore
set_option linter.unusedVariables false
set_option linter.unusedSimpArgs false

def skiarearef50_Own.f (l0 : List (S34)) : Option ((List (S34))) := if l0.length ≤ 1000 ∧ ∀ x ∈ l0, x.f1.length ≤ 1000 ∧ x.f2.length ≤ 1000 then some l0 else none

theorem box6 {W : World} {B : Nat} {a0 a1 a2 a3 a4 a5 : Value} (h : W.heap[B]? = some (.cells #[a0, a1, a2, a3, a4, a5] 34 (0, 0))) :
    (W.cell? ⟨B, 0, none⟩ = some a0 ∧ W.cell? ⟨B, 1, none⟩ = some a1 ∧ W.cell? ⟨B, 2, none⟩ = some a2 ∧ W.cell? ⟨B, 3, none⟩ = some a3 ∧ W.cell? ⟨B, 4, none⟩ = some a4 ∧ W.cell? ⟨B, 5, none⟩ = some a5) ∧ W.frozen? ⟨B, 1, none⟩ = false ∧ W.frozen? ⟨B, 2, none⟩ = false :=
  ⟨⟨blk_cell h 0, blk_cell h 1, blk_cell h 2, blk_cell h 3, blk_cell h 4, blk_cell h 5⟩, blk_frozen h 1, blk_frozen h 2⟩

set_option maxHeartbeats 4000000 in
theorem skiarearef50_Own.calls (A0 : Option Addr) (c0 : Nat) (l0 : List (S34)) (r : List (S34)) (w : World) (hr0 : Kd.C k34 w A0 l0.length l0) (hc0 : l0.length ≤ c0) (h : skiarearef50_Own.f l0 = some r) :
    Calls Try.prog 31 #[.slice A0 l0.length c0] w fun e w' => ∃ v0_ : Value, e = .returned (v0_) ∧ Kd.S k34 34 w' w.heap.size (fun _ => True) v0_ r ∧ Below w.heap.size w w' := by
  unfold skiarearef50_Own.f at h
  split at h
  · rename_i hb
    injection h with h
    subst h
    obtain ⟨hn, hin⟩ := hb
    have hu34 := Try.underlying34
    have HC := Aside0.mk hr0
    have HIN := Aside0.mk hin
    clear hr0 hin
    go_enter Try.func31, Try.ntmps31
    go_wp2
    go_loopg [3, 4, 5] l0.length (fun gg s3 s4 _ wr => ∃ k : Nat, k ≤ l0.length ∧ l0.length - k ≤ gg ∧ s4 = .int .i64 k ∧ Aside0 (Kd.S k34 34 wr w.heap.size (fun _ => True) s3 (l0.take k)) ∧ Aside0 (Below w.heap.size w wr))
    case atStart => exact ⟨0, Nat.zero_le _, by omega, rfl, ⟨Kd.S_nil _ _ _ _ _⟩, ⟨Below.refl _ _⟩⟩
    case round =>
      obtain ⟨k, hk, hg, rfl, HS, HB⟩ := hrel
      by_cases hlt : k < l0.length
      · have hltz : (k : Int) < (l0.length : Int) := by omega
        obtain ⟨ad, A1, c1, A2, c2, rfl, hx0, hx1, hx2, hx3, hx4, hx5, hl1, hC1, hl2, hC2⟩ := at_T34 (Kd.C_below HC.out HB.out) (k : Int) (by omega) (by omega)
        have hrd : rd_T34 l0 (k : Int) = l0[k] := by simp [rd_T34, List.getD_eq_getElem?_getD, hlt]
        rw [hrd] at hx0 hx1 hx2 hx3 hx4 hx5 hl1 hC1 hl2 hC2
        rw [Int.toNat_natCast] at hx0 hx1 hx2 hx3 hx4 hx5
        have hb := HIN.out l0[k] (List.getElem_mem hlt)
        have htk : l0.take (k + 1) = l0.take k ++ [l0[k]] := List.take_succ_eq_append_getElem hlt
        obtain ⟨x, hx⟩ : ∃ x, x = l0[k] := ⟨_, rfl⟩
        rw [← hx] at hx0 hx1 hx2 hx3 hx4 hx5 hb hl1 hC1 hl2 hC2 htk
        have HTK := Aside0.mk htk
        have HC1 := Aside0.mk (Kd.C_alloc hC1 (.cells #[.int .i64 x.f0, .slice A1 x.f1.length c1, .slice A2 x.f2.length c2, .int .i64 x.f3, .int .i64 x.f4, .int .i64 x.f5] 34))
        have HC2 := Aside0.mk hC2
        have hblk := blk_new wr (.cells #[.int .i64 x.f0, .slice A1 x.f1.length c1, .slice A2 x.f2.length c2, .int .i64 x.f3, .int .i64 x.f4, .int .i64 x.f5] 34)
        have HBL := Aside0.mk hblk
        have HB0 := Aside0.mk (show Below wr.heap.size wr (wr.alloc (.cells #[.int .i64 x.f0, .slice A1 x.f1.length c1, .slice A2 x.f2.length c2, .int .i64 x.f3, .int .i64 x.f4, .int .i64 x.f5] 34)) from below_alloc (Below.refl _ _) _)
        have HBB := Aside0.mk hb
        clear hrd hx htk hC1 hC2 hblk hb hl1 hl2
        go_wp2_with (at_builtin; refine print_append_row (w0 := wr.alloc (.cells #[.int .i64 x.f0, .slice A1 x.f1.length c1, .slice A2 x.f2.length c2, .int .i64 x.f3, .int .i64 x.f4, .int .i64 x.f5] 34)) (wr.alloc (.cells #[.int .i64 x.f0, .slice A1 x.f1.length c1, .slice A2 x.f2.length c2, .int .i64 x.f3, .int .i64 x.f4, .int .i64 x.f5] 34)).heap.size rfl (.const (.slice none 0 0)) (.tmp 17) 31 3 .i64 8 rfl Try.underlying31 info3 (by decide) (.slice none 0 0) [] x.f1 A1 x.f1.length c1 rfl rfl (own_nil _ _ _ _) (Kd.reads_of_C HC1.out) (Below.refl _ _) (Nat.le_refl _) (by have := HBB.out.1; simp; omega) ?_)
        intro v1 w2 hown hb1 hg1 hat1
        replace hown := show w2.ownsRow (wr.heap.size + 1) 3 1 v1 x.f1.length (x.f1.map (Value.int .i64)) from by simpa [nums] using hown
        obtain ⟨E1, m1, rfl⟩ := Kd.R_slice (Help.int_own hown)
        have hbl2 := blk_below HBL.out (hb1.mono (by simp))
        obtain ⟨⟨hy0, hy1, hy2, hy3, hy4, hy5⟩, hf1, hf2⟩ := box6 hbl2
        have HBL2 := Aside0.mk (blk_put (cs' := #[.int .i64 x.f0, .slice E1 x.f1.length m1, .slice A2 x.f2.length c2, .int .i64 x.f3, .int .i64 x.f4, .int .i64 x.f5]) hbl2 1 (.slice E1 x.f1.length m1) rfl)
        obtain ⟨⟨hz0, hz1, hz2, hz3, hz4, hz5⟩, hfz1, hfz2⟩ := box6 HBL2.out
        have HV1 := Aside0.mk (Kd.R_set (Help.int_own hown) hbl2 (by decide) 1 (.slice E1 x.f1.length m1))
        have HB1 := Aside0.mk (show Below wr.heap.size wr (w2.setCell ⟨wr.heap.size, 1, none⟩ (.slice E1 x.f1.length m1)) from below_set (HB0.out.trans (hb1.mono (by simp))) (Nat.le_refl _))
        have HC22 := Aside0.mk (Kd.C_below HC2.out HB1.out)
        clear hown hb1 hg1 hat1 hbl2
        obtain ⟨w3, hw3⟩ : ∃ w3, w3 = w2.setCell ⟨wr.heap.size, 1, none⟩ (.slice E1 x.f1.length m1) := ⟨_, rfl⟩
        have HW3 := Aside0.mk hw3
        have hsz3 : wr.heap.size < w3.heap.size := blk_lt (by rw [hw3]; exact HBL2.out)
        rw [← hw3] at HBL2 HV1 HB1 HC22
        clear hw3
        go_wp2_with (at_builtin; rw [← HW3.out]; refine print_append_row (w0 := w3) w3.heap.size rfl (.const (.slice none 0 0)) (.tmp 21) 31 3 .i64 8 rfl Try.underlying31 info3 (by decide) (.slice none 0 0) [] x.f2 A2 x.f2.length c2 rfl rfl (own_nil _ _ _ _) (Kd.reads_of_C HC22.out) (Below.refl _ _) (Nat.le_refl _) (by have := HBB.out.2; simp; omega) ?_)
        intro v2 w4 hown hb2 hg2 hat2
        clear hy0 hy1 hy2 hy3 hy4 hy5 hf1 hf2 hz0 hz1 hz2 hz3 hz4 hz5 hfz1 hfz2
        replace hown := show w4.ownsRow w3.heap.size 3 1 v2 x.f2.length (x.f2.map (Value.int .i64)) from by simpa [nums] using hown
        obtain ⟨E2, m2, rfl⟩ := Kd.R_slice (Help.int_own hown)
        have hbl4 := blk_below HBL2.out hb2
        obtain ⟨⟨hy0, hy1, hy2, hy3, hy4, hy5⟩, hf1, hf2⟩ := box6 hbl4
        have HBL5 := Aside0.mk (blk_put (cs' := #[.int .i64 x.f0, .slice E1 x.f1.length m1, .slice E2 x.f2.length m2, .int .i64 x.f3, .int .i64 x.f4, .int .i64 x.f5]) hbl4 2 (.slice E2 x.f2.length m2) rfl)
        obtain ⟨⟨hz0, hz1, hz2, hz3, hz4, hz5⟩, hfz1, hfz2⟩ := box6 HBL5.out
        have HV2 := Aside0.mk (Kd.R_set (Help.int_own hown) hbl4 (by decide) 2 (.slice E2 x.f2.length m2))
        have HV1' := Aside0.mk (Kd.R_set (Kd.R_below HV1.out hb2) hbl4 (by decide) 2 (.slice E2 x.f2.length m2))
        have HB5 := Aside0.mk (show Below wr.heap.size wr (w4.setCell ⟨wr.heap.size, 2, none⟩ (.slice E2 x.f2.length m2)) from below_set (HB1.out.trans (hb2.mono (by omega))) (Nat.le_refl _))
        have hlt1 := Kd.R_lt HV1.out
        have HLT1 := Aside0.mk hlt1
        clear hown hb2 hg2 hat2 hbl4 hlt1
        obtain ⟨w5, hw5⟩ : ∃ w5, w5 = w4.setCell ⟨wr.heap.size, 2, none⟩ (.slice E2 x.f2.length m2) := ⟨_, rfl⟩
        have HW5 := Aside0.mk hw5
        have HZ5 := Aside0.mk (show w5.heap.size = w4.heap.size from by rw [hw5]; simp)
        rw [← hw5] at HBL5 HV2 HV1' HB5
        clear hw5
        obtain ⟨B3, m3, rfl⟩ := Kd.S_slice HS.out
        have hsB := HB.out.size
        have hs5 := HB5.out.size
        have hq : ∀ q, (some q = (Value.slice E1 x.f1.length m1).ownBlock ∨ some q = (Value.slice E2 x.f2.length m2).ownBlock) → wr.heap.size < q := by
          rintro q (e | e)
          · have := Kd.R_base HV1'.out q e.symm
            omega
          · have := Kd.R_base HV2.out q e.symm
            omega
        have hp : k34.M w5 w.heap.size (fun q => some q = (Value.slice E1 x.f1.length m1).ownBlock ∨ some q = (Value.slice E2 x.f2.length m2).ownBlock) x [.int .i64 x.f0, .slice E1 x.f1.length m1, .slice E2 x.f2.length m2, .int .i64 x.f3, .int .i64 x.f4, .int .i64 x.f5] :=
          k34_mkM w5 w.heap.size _ x (Kd.R_lower (Kd.R_mono (Kd.R_tight rfl HV1'.out) (fun q e => .inl e)) (by omega)) (Kd.R_lower (Kd.R_mono (Kd.R_tight rfl HV2.out) (fun q e => .inr e)) (by omega))
        have hokp : ∀ q, (some q = (Value.slice E1 x.f1.length m1).ownBlock ∨ some q = (Value.slice E2 x.f2.length m2).ownBlock) → True ∧ some q ≠ (Value.slice B3 (l0.take k).length m3).ownBlock := fun q h => ⟨trivial, fun e => by
          have h1 := hq q h
          have h2 := Kd.S_lt HS.out q e.symm
          omega⟩
        have hO : Kd.S k34 34 w5 w.heap.size (fun q => True ∧ ¬ (some q = (Value.slice E1 x.f1.length m1).ownBlock ∨ some q = (Value.slice E2 x.f2.length m2).ownBlock)) (.slice B3 (l0.take k).length m3) (l0.take k) :=
          Kd.S_mono (Kd.S_below (Kd.S_mono (Kd.S_bound HS.out) (ok' := fun q => q < wr.heap.size) (fun _ h => h.2.2.1)) HB5.out) (fun q hlt => ⟨trivial, fun h => by have := hq q h; omega⟩)
        have HP := Aside0.mk hp
        have HOK := Aside0.mk hokp
        have HO := Aside0.mk hO
        have HBW := Aside0.mk (HB.out.trans (HB5.out.mono hsB))
        have hlk := List.length_take_le k l0
        clear hp hokp hO hq
        go_wp2_with (at_builtin; rw [← HW5.out]; refine Kd.S_append k34 (w0 := w) w.heap.size rfl (.tmp 24) (.tmp 26) 22 34 _ 80 rfl Try.underlying22 info34 rfl (by decide) (by decide) (.slice B3 (l0.take k).length m3) (l0.take k) x [.int .i64 x.f0, .slice E1 x.f1.length m1, .slice E2 x.f2.length m2, .int .i64 x.f3, .int .i64 x.f4, .int .i64 x.f5] (fun _ => True) (fun q => some q = (Value.slice E1 x.f1.length m1).ownBlock ∨ some q = (Value.slice E2 x.f2.length m2).ownBlock) rfl (by first | rfl | (rw [HZ5.out]; rfl)) HP.out HOK.out (fun _ _ => trivial) HO.out HBW.out (by omega) (by omega) ?_; intro v6 w6 hS6 hb6 hg6 hat6)
        go_roundg (l0.length - (k + 1))
        case measure => omega
        case rel => exact ⟨k + 1, by omega, by omega, by go_num, ⟨by rw [HTK.out]; exact hS6⟩, ⟨hb6⟩⟩
      · have hltz : ¬ (k : Int) < (l0.length : Int) := by omega
        obtain rfl : k = l0.length := by omega
        go_wp2
        go_ret
        refine ⟨_, rfl, ?_, HB.out⟩
        have := HS.out
        rwa [List.take_length] at this
  · cases h
end Go.Proofs.Ytfjnpdgjigkbcaa.PAll
