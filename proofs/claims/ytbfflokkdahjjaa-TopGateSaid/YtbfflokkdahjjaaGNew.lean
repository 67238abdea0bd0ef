/- media.New: a medium that was never used, or the error. No condition. Products of one element that can be read. -/
import Derived.Test.YtbfflokkdahjjaaGPassA
namespace Go.Proofs.Ytbfflokkdahjjaa.PV
open Go.RowKit Go.Proofs.Ytbfflokkdahjjaa.PAll Go.Proofs.Ytbfflokkdahjjaa.Pure Go.Proofs.YtbfflokkdahjjaaW.PrintWords Go.Proofs.YtbfflokkdahjjaaW.PrintLast Go.Proofs.YtbfflokkdahjjaaW.PrintMore
set_option linter.unusedVariables false
set_option linter.unusedSimpArgs false
def m0 (s p u : Int) : M9 := ⟨s, 0, p, -1, u, -1, 0, -1, 0⟩
def newF (key s p u : Int) : M9 × Int := if mright s 0 p (-1) u (-1) 0 (-1) = 0 then (signM key (m0 s p u), 0) else (mz, 2)
set_option maxHeartbeats 2000000 in
set_option maxRecDepth 100000 in
theorem new_c (key s p u : Int) (w : World) :
    Calls Try.prog 14 #[.int .u64 key, .int .i64 s, .int .i64 p, .int .i64 u] w fun e w' => e = .returned (.tuple #[.agg #[.int .i64 (newF key s p u).1.f0, .int .i64 (newF key s p u).1.f1, .int .i64 (newF key s p u).1.f2, .int .i64 (newF key s p u).1.f3, .int .i64 (newF key s p u).1.f4, .int .i64 (newF key s p u).1.f5, .int .i64 (newF key s p u).1.f6, .int .i64 (newF key s p u).1.f7, .int .u64 (newF key s p u).1.f8], .int .i64 (newF key s p u).2]) ∧ Below w.heap.size w w' := by
  have hu := Try.underlying30
  obtain ⟨r, hr⟩ : ∃ r, r = newF key s p u := ⟨_, rfl⟩
  rw [← hr]
  have HR := Aside0.mk hr
  obtain ⟨rc, hrc⟩ : ∃ x, x = mright s 0 p (-1) u (-1) 0 (-1) := ⟨_, rfl⟩
  have HC := Aside0.mk hrc
  clear hr hrc
  go_enter Try.func14, Try.ntmps14
  go_wp2_with (first
    | (go_at_call 18; refine (media_Right.calls s 0 p (-1) u (-1) 0 (-1) 0 _ _ rfl).mono ?_; rintro e w1 ⟨rfl, hb⟩; rw [← HC.out]; have BZ := Aside0.mk (blk_below (blk_alloc (blk_new w (.cells #[.int .i64 0, .int .i64 0, .int .i64 0, .int .i64 0, .int .i64 0, .int .i64 0, .int .i64 0, .int .i64 0, .int .u64 0] 30)) (.cells #[.int .i64 s, .int .i64 0, .int .i64 p, .int .i64 (-1), .int .i64 u, .int .i64 (-1), .int .i64 0, .int .i64 (-1), .int .u64 0] 30)) hb); have BM := Aside0.mk (blk_below (blk_new1 w (.cells #[.int .i64 0, .int .i64 0, .int .i64 0, .int .i64 0, .int .i64 0, .int .i64 0, .int .i64 0, .int .i64 0, .int .u64 0] 30) (.cells #[.int .i64 s, .int .i64 0, .int .i64 p, .int .i64 (-1), .int .i64 u, .int .i64 (-1), .int .i64 0, .int .i64 (-1), .int .u64 0] 30)) hb); have HB := Aside0.mk ((below_alloc (below_alloc (Below.refl w.heap.size w) _) _).trans (hb.mono (below_alloc (below_alloc (Below.refl w.heap.size w) _) _).size)); clear hb; have zBZ0 := (blk_cell BZ.out 0).trans rfl; have yBZ0 := blk_frozen BZ.out 0; have zBZ1 := (blk_cell BZ.out 1).trans rfl; have yBZ1 := blk_frozen BZ.out 1; have zBZ2 := (blk_cell BZ.out 2).trans rfl; have yBZ2 := blk_frozen BZ.out 2; have zBZ3 := (blk_cell BZ.out 3).trans rfl; have yBZ3 := blk_frozen BZ.out 3; have zBZ4 := (blk_cell BZ.out 4).trans rfl; have yBZ4 := blk_frozen BZ.out 4; have zBZ5 := (blk_cell BZ.out 5).trans rfl; have yBZ5 := blk_frozen BZ.out 5; have zBZ6 := (blk_cell BZ.out 6).trans rfl; have yBZ6 := blk_frozen BZ.out 6; have zBZ7 := (blk_cell BZ.out 7).trans rfl; have yBZ7 := blk_frozen BZ.out 7; have zBZ8 := (blk_cell BZ.out 8).trans rfl; have yBZ8 := blk_frozen BZ.out 8; have zBM0 := (blk_cell BM.out 0).trans rfl; have yBM0 := blk_frozen BM.out 0; have zBM1 := (blk_cell BM.out 1).trans rfl; have yBM1 := blk_frozen BM.out 1; have zBM2 := (blk_cell BM.out 2).trans rfl; have yBM2 := blk_frozen BM.out 2; have zBM3 := (blk_cell BM.out 3).trans rfl; have yBM3 := blk_frozen BM.out 3; have zBM4 := (blk_cell BM.out 4).trans rfl; have yBM4 := blk_frozen BM.out 4; have zBM5 := (blk_cell BM.out 5).trans rfl; have yBM5 := blk_frozen BM.out 5; have zBM6 := (blk_cell BM.out 6).trans rfl; have yBM6 := blk_frozen BM.out 6; have zBM7 := (blk_cell BM.out 7).trans rfl; have yBM7 := blk_frozen BM.out 7; have zBM8 := (blk_cell BM.out 8).trans rfl; have yBM8 := blk_frozen BM.out 8)
    | (go_at_call 19; have h0 : rc = 0 := (by simpa using (by assumption : (rc != 0) = false)); refine (sign_c key (m0 s p u) _ (range_ok (mright_zero.1 (show mright s 0 p (-1) u (-1) 0 (-1) = 0 by rw [← HC.out]; exact h0)).1)).mono ?_; rintro e w2 ⟨rfl, hb⟩; have BZ := Aside0.mk (blk_below BZ.out hb); have HB := Aside0.mk (HB.out.trans (hb.mono HB.out.size)); clear hb; have zBZ0 := (blk_cell BZ.out 0).trans rfl; have yBZ0 := blk_frozen BZ.out 0; have zBZ1 := (blk_cell BZ.out 1).trans rfl; have yBZ1 := blk_frozen BZ.out 1; have zBZ2 := (blk_cell BZ.out 2).trans rfl; have yBZ2 := blk_frozen BZ.out 2; have zBZ3 := (blk_cell BZ.out 3).trans rfl; have yBZ3 := blk_frozen BZ.out 3; have zBZ4 := (blk_cell BZ.out 4).trans rfl; have yBZ4 := blk_frozen BZ.out 4; have zBZ5 := (blk_cell BZ.out 5).trans rfl; have yBZ5 := blk_frozen BZ.out 5; have zBZ6 := (blk_cell BZ.out 6).trans rfl; have yBZ6 := blk_frozen BZ.out 6; have zBZ7 := (blk_cell BZ.out 7).trans rfl; have yBZ7 := blk_frozen BZ.out 7; have zBZ8 := (blk_cell BZ.out 8).trans rfl; have yBZ8 := blk_frozen BZ.out 8))
  all_goals
    refine bodyPost_ret (results_ct rfl _ _ w.heap.size 30 _ (0, 0) _ rfl (blk_put9 BZ.out _ _ _ _ _ _ _ _ _) Try.underlying30 rfl (by kernel_rfl)) rfl ?_
    refine ⟨?_, by repeat (first | (with_reducible refine below_set ?_ (by omega)) | (with_reducible exact HB.out))⟩
    first
      | (rw [show r = (mz, 2) from HR.out.trans (by unfold newF; rw [← HC.out]; exact if_neg (by simpa using (by assumption : (rc != 0) = true)))]; rfl)
      | (rw [show r = (signM key (m0 s p u), 0) from HR.out.trans (by unfold newF; rw [← HC.out]; exact if_pos (by simpa using (by assumption : (rc != 0) = false)))]; rfl)
/-- A row of one product in a block. -/
theorem one_row {W : World} {g : Nat} {p : S40} {A : Option Addr} {c : Nat} {B : Option Addr} {d : Nat} (hb : W.heap[g]? = some (.cells #[.int .i64 p.f0, .int .i64 p.f1, .int .i64 p.f2, .int .i64 p.f3, .int .i64 p.f4, .slice A p.f5.length c, .slice B p.f6.length d, .int .i64 p.f7.f0, .int .i64 p.f7.f1, .int .i64 p.f8] 40 (0, 0)))
    (h5 : Kd.C (Kd.int .i64) W A p.f5.length p.f5) (c5 : p.f5.length ≤ c) (h6 : Kd.C k73 W B p.f6.length p.f6) (c6 : p.f6.length ≤ d) : Kd.C k40 W (some ⟨g, 0, none⟩) [p].length [p] := by
  refine ⟨rfl, by simp, fun _ => ⟨⟨g, 0, none⟩, rfl, fun j q hj => ?_⟩⟩
  have hj0 : j = 0 := by
    have := (List.getElem?_eq_some_iff.1 hj).1
    simp at this
    exact this
  subst hj0
  simp at hj
  subst hj
  refine ⟨(#[.int .i64 p.f0, .int .i64 p.f1, .int .i64 p.f2, .int .i64 p.f3, .int .i64 p.f4, .slice A p.f5.length c, .slice B p.f6.length d, .int .i64 p.f7.f0, .int .i64 p.f7.f1, .int .i64 p.f8]).toList, rfl, ?_, fun i u hu => ?_⟩
  · exact ⟨_, _, rfl, rfl, ⟨_, _, rfl, rfl, ⟨_, _, rfl, rfl, ⟨_, _, rfl, rfl, ⟨_, _, rfl, rfl, ⟨_, _, rfl, ⟨A, c, rfl, c5, h5⟩, ⟨_, _, rfl, ⟨B, d, rfl, c6, h6⟩, ⟨_, _, rfl, k38_mk W p.f7, rfl⟩⟩⟩⟩⟩⟩⟩⟩
  · rw [Addr.add_lit, blk_cell hb]
    simpa using hu
theorem ints_row {W : World} {g : Nat} {x : Int} (hb : W.heap[g]? = some (.cells #[.int .i64 x] 3 (0, 0))) : Kd.C (Kd.int .i64) W (some ⟨g, 0, none⟩) [x].length [x] := by
  refine Kd.C_of_reads (enc := Value.int .i64) (d := (0 : Int)) (h1 := fun _ => rfl) ⟨rfl, by simp, fun h0 => ⟨_, rfl, fun j hj => ?_⟩⟩
  have hj0 : j = 0 := by simp at hj; exact hj
  subst hj0
  rw [Addr.add_lit, blk_cell hb]
  rfl
end Go.Proofs.Ytbfflokkdahjjaa.PV
