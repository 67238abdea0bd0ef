/- gate.Pass: the gate, the medium and the ride after a guest, or the error. Conditions as for Decide, and a bound on the time at which the gate opens. -/
import Derived.Test.YtbfflokkdahjjaaGPassA
namespace Go.Proofs.Ytbfflokkdahjjaa.PV
open Go.RowKit Go.Proofs.Ytbfflokkdahjjaa.PAll Go.Proofs.Ytbfflokkdahjjaa.Pure Go.Proofs.YtbfflokkdahjjaaW.PrintWords Go.Proofs.YtbfflokkdahjjaaW.PrintLast Go.Proofs.YtbfflokkdahjjaaW.PrintMore
set_option linter.unusedVariables false
set_option linter.unusedSimpArgs false
theorem cell_other {w : World} {g g' i j : Nat} {u v : Value} (h : w.cell? ⟨g, i, none⟩ = some v) (hne : g' ≠ g) : (w.setCell ⟨g', j, none⟩ u).cell? ⟨g, i, none⟩ = some v := by
  unfold World.cell? at h ⊢
  rw [Below.heap_setCell w ⟨g', j, none⟩ u g (fun e => hne e.symm)]
  exact h
theorem R_low {w : World} {base g j : Nat} {u v : Value} {xs : List Int} (h : Kd.R (Kd.int .i64) 3 w base (fun _ => True) v xs) (hg : g < base) : Kd.R (Kd.int .i64) 3 (w.setCell ⟨g, j, none⟩ u) base (fun _ => True) v xs :=
  Kd.R_mono (Kd.R_far (p := ⟨g, j, none⟩) (Kd.R_bound h) (fun k hk => by have h1 := hk.2.1; show k ≠ g; omega) u) (fun _ _ => trivial)
def st_T13 : Bool × List (List Nat × List Nat) := (true, [([], []), ([], []), ([1], [1]), ([], []), ([2, 3], [2, 3]), ([], []), ([0, 4, 0], [0]), ([4, 6, 0, 1, 2, 3, 4, 6], [4]), ([5, 7, 0, 1, 2, 3, 4, 5, 6, 7], [5]), ([8, 0, 1, 2, 3, 4, 5, 6, 7, 8], [])])
def st_B13 : List Nat := [0, 0, 2, 0, 14, 0, 31, 95, 255, 511]
theorem st_tab13 : rtab .any (opsOf Try.f13 13) = st_T13 := by kernel_rfl
theorem st_bits13 : waitsOk st_T13.2 st_B13 = true := by kernel_rfl
theorem pass_ok {g : G8} {l : List (S40)} {m n : M9} {t dc ue : Int} {p : S40} (hd : dc = 0) (hu : ue = 0)
    (hx : dc = decideF g l m t ∧ p = (findP l m.f2).1 ∧ n = (useF p m g.f2 g.f1 t).1 ∧ ue = (useF p m g.f2 g.f1 t).2) (hs : g.f3 < 1000000) : passF g l m t = passOk g m n t := by
  obtain ⟨h1, h2, h3, h4⟩ := hx
  unfold passF
  rw [← h1, ← h2, ← h3, ← h4, if_neg (by omega), if_neg (by omega), if_neg (by omega)]
set_option maxHeartbeats 8000000 in
set_option maxRecDepth 100000 in
theorem pass_c (g : G8) (A : Option Addr) (c : Nat) (l : List (S40)) (B : Option Addr) (d : Nat) (m : M9) (t : Int) (w : World) (h : GR w g A c) (hl : LR w l B d) (ht : decideF g l m t = 0 → -1 ≤ t ∧ t ≤ 900000000) :
    Calls Try.prog 13 #[.agg #[.int .i64 g.f0, .int .i64 g.f1, .int .i64 g.f2, .int .i64 g.f3, .int .u64 g.f4, .int .i64 g.f5, .slice A g.f6.length c, .int .i64 g.f7], .slice B l.length d, .agg #[.int .i64 m.f0, .int .i64 m.f1, .int .i64 m.f2, .int .i64 m.f3, .int .i64 m.f4, .int .i64 m.f5, .int .i64 m.f6, .int .i64 m.f7, .int .u64 m.f8], .int .i64 t] w fun e w' => ∃ v, e = .returned (.tuple #[.agg #[.int .i64 (passF g l m t).1.f0, .int .i64 (passF g l m t).1.f1, .int .i64 (passF g l m t).1.f2, .int .i64 (passF g l m t).1.f3, .int .u64 (passF g l m t).1.f4, .int .i64 (passF g l m t).1.f5, v, .int .i64 (passF g l m t).1.f7], .agg #[.int .i64 (passF g l m t).2.1.f0, .int .i64 (passF g l m t).2.1.f1, .int .i64 (passF g l m t).2.1.f2, .int .i64 (passF g l m t).2.1.f3, .int .i64 (passF g l m t).2.1.f4, .int .i64 (passF g l m t).2.1.f5, .int .i64 (passF g l m t).2.1.f6, .int .i64 (passF g l m t).2.1.f7, .int .u64 (passF g l m t).2.1.f8], .agg #[.int .i64 (passF g l m t).2.2.1.f0, .int .i64 (passF g l m t).2.2.1.f1, .int .i64 (passF g l m t).2.2.1.f2, .int .i64 (passF g l m t).2.2.1.f3, .int .i64 (passF g l m t).2.2.1.f4, .int .i64 (passF g l m t).2.2.1.f5, .int .i64 (passF g l m t).2.2.1.f6], .int .i64 (passF g l m t).2.2.2]) ∧ Kd.R (Kd.int .i64) 3 w' w.heap.size (fun _ => True) v (passF g l m t).1.f6 ∧ Below w.heap.size w w' := by
  have hu := Try.underlying27
  have hu2 := Try.underlying30
  have hu3 := Try.underlying40
  have hu4 := Try.underlying47
  have HG := Aside0.mk h
  have HL := Aside0.mk hl
  obtain ⟨r, hr⟩ : ∃ r, r = passF g l m t := ⟨_, rfl⟩
  rw [← hr]
  have HR := Aside0.mk hr
  obtain ⟨dc, hdc⟩ : ∃ x, x = decideF g l m t := ⟨_, rfl⟩
  obtain ⟨p, hp⟩ : ∃ x, x = (findP l m.f2).1 := ⟨_, rfl⟩
  obtain ⟨n, hn⟩ : ∃ x, x = (useF p m g.f2 g.f1 t).1 := ⟨_, rfl⟩
  obtain ⟨ue, hue⟩ : ∃ x, x = (useF p m g.f2 g.f1 t).2 := ⟨_, rfl⟩
  have HFEW := Aside0.mk (show p.f5.length ≤ 1000000 from by rw [hp]; exact find_few hl.few m.f2)
  have HX := Aside0.mk (And.intro hdc (And.intro hp (And.intro hn hue)))
  have HOK := Aside0.mk (show dc = 0 → ue = 0 → media_Body.ok n.f0 n.f1 n.f2 n.f3 n.f4 n.f5 n.f6 n.f7 from fun h1 h2 => by
    rw [hdc] at h1
    rw [hn]
    exact use_ok (decide_open.1 h1).2.1 (hue ▸ h2) (ht h1))
  obtain ⟨wz, hwz⟩ : ∃ W, W = ((((w.alloc (.cells #[.int .i64 g.f0, .int .i64 g.f1, .int .i64 g.f2, .int .i64 g.f3, .int .u64 g.f4, .int .i64 g.f5, .slice A g.f6.length c, .int .i64 g.f7] 27)).alloc (.cells #[.int .i64 m.f0, .int .i64 m.f1, .int .i64 m.f2, .int .i64 m.f3, .int .i64 m.f4, .int .i64 m.f5, .int .i64 m.f6, .int .i64 m.f7, .int .u64 m.f8] 30)).alloc (.cells #[.int .i64 0, .int .i64 0, .int .i64 0, .int .i64 0, .int .u64 0, .int .i64 0, .slice none 0 0, .int .i64 0] 27)).alloc (.cells #[.int .i64 0, .int .i64 0, .int .i64 0, .int .i64 0, .int .i64 0, .int .i64 0, .int .i64 0, .int .i64 0, .int .u64 0] 30)).alloc (.cells #[.int .i64 0, .int .i64 0, .int .i64 0, .int .i64 0, .int .i64 0, .int .i64 0, .int .i64 0] 47) := ⟨_, rfl⟩
  have hP := Aside0.mk (show At wz w.heap.size (#[.int .i64 g.f0, .int .i64 g.f1, .int .i64 g.f2, .int .i64 g.f3, .int .u64 g.f4, .int .i64 g.f5, .slice A g.f6.length c, .int .i64 g.f7]).toList from by rw [hwz]; exact (((((At.new w _ 27 w.heap.size rfl).alloc _).alloc _).alloc _).alloc _))
  have hM := Aside0.mk (show At wz (w.heap.size + 1) (#[.int .i64 m.f0, .int .i64 m.f1, .int .i64 m.f2, .int .i64 m.f3, .int .i64 m.f4, .int .i64 m.f5, .int .i64 m.f6, .int .i64 m.f7, .int .u64 m.f8]).toList from by rw [hwz]; exact (((At.new _ _ 30 (w.heap.size + 1) (by simp)).alloc _).alloc _).alloc _)
  have B2 := Aside0.mk (show wz.heap[w.heap.size + 1 + 1]? = some (.cells #[.int .i64 0, .int .i64 0, .int .i64 0, .int .i64 0, .int .u64 0, .int .i64 0, .slice none 0 0, .int .i64 0] 27 (0, 0)) from by rw [hwz]; exact blk_alloc (blk_alloc (blk_new2 w _ _ _) _) _)
  have B3 := Aside0.mk (show wz.heap[w.heap.size + 1 + 1 + 1]? = some (.cells #[.int .i64 0, .int .i64 0, .int .i64 0, .int .i64 0, .int .i64 0, .int .i64 0, .int .i64 0, .int .i64 0, .int .u64 0] 30 (0, 0)) from by rw [hwz]; exact blk_alloc (blk_new3 w _ _ _ _) _)
  have B4 := Aside0.mk (show wz.heap[w.heap.size + 1 + 1 + 1 + 1]? = some (.cells #[.int .i64 0, .int .i64 0, .int .i64 0, .int .i64 0, .int .i64 0, .int .i64 0, .int .i64 0] 47 (0, 0)) from by rw [hwz]; exact blk_new4 w _ _ _ _ _)
  have HB := Aside0.mk (show Below w.heap.size w wz from by rw [hwz]; exact below_alloc (below_alloc (below_alloc (below_alloc (below_alloc (Below.refl w.heap.size w) _) _) _) _) _)
  have HWZ := Aside0.mk hwz
  clear hr h hl ht hdc hp hn hue hwz
  go_enter Try.func13, Try.ntmps13
  go_wp2_with (first
    | (go_at_call 8; rw [← HWZ.out]; refine (decide_c g A c l B d m t _ (HG.out.below HB.out) (HL.out.below HB.out)).mono ?_; rintro e w1 ⟨rfl, hb⟩; rw [← HX.out.1]; have hP := Aside0.mk (hP.out.below hb); have hM := Aside0.mk (hM.out.below hb); have B2 := Aside0.mk (blk_below B2.out hb); have B3 := Aside0.mk (blk_below B3.out hb); have B4 := Aside0.mk (blk_below B4.out hb); have HB := Aside0.mk (HB.out.trans (hb.mono HB.out.size)); clear hb; have zhP0 := hP.out 0 _ rfl; have zhP1 := hP.out 1 _ rfl; have zhP2 := hP.out 2 _ rfl; have zhP3 := hP.out 3 _ rfl; have zhP4 := hP.out 4 _ rfl; have zhP5 := hP.out 5 _ rfl; have zhP6 := hP.out 6 _ rfl; have zhP7 := hP.out 7 _ rfl; have zhM0 := hM.out 0 _ rfl; have zhM1 := hM.out 1 _ rfl; have zhM2 := hM.out 2 _ rfl; have zhM3 := hM.out 3 _ rfl; have zhM4 := hM.out 4 _ rfl; have zhM5 := hM.out 5 _ rfl; have zhM6 := hM.out 6 _ rfl; have zhM7 := hM.out 7 _ rfl; have zhM8 := hM.out 8 _ rfl; have ahP0 := fun X : Obj => (hP.out.alloc X) 0 _ rfl; have ahP1 := fun X : Obj => (hP.out.alloc X) 1 _ rfl; have ahP2 := fun X : Obj => (hP.out.alloc X) 2 _ rfl; have ahP3 := fun X : Obj => (hP.out.alloc X) 3 _ rfl; have ahP4 := fun X : Obj => (hP.out.alloc X) 4 _ rfl; have ahP5 := fun X : Obj => (hP.out.alloc X) 5 _ rfl; have ahP6 := fun X : Obj => (hP.out.alloc X) 6 _ rfl; have ahP7 := fun X : Obj => (hP.out.alloc X) 7 _ rfl; have ahM0 := fun X : Obj => (hM.out.alloc X) 0 _ rfl; have ahM1 := fun X : Obj => (hM.out.alloc X) 1 _ rfl; have ahM2 := fun X : Obj => (hM.out.alloc X) 2 _ rfl; have ahM3 := fun X : Obj => (hM.out.alloc X) 3 _ rfl; have ahM4 := fun X : Obj => (hM.out.alloc X) 4 _ rfl; have ahM5 := fun X : Obj => (hM.out.alloc X) 5 _ rfl; have ahM6 := fun X : Obj => (hM.out.alloc X) 6 _ rfl; have ahM7 := fun X : Obj => (hM.out.alloc X) 7 _ rfl; have ahM8 := fun X : Obj => (hM.out.alloc X) 8 _ rfl; have zB20 := (blk_cell B2.out 0).trans rfl; have yB20 := blk_frozen B2.out 0; have zB21 := (blk_cell B2.out 1).trans rfl; have yB21 := blk_frozen B2.out 1; have zB22 := (blk_cell B2.out 2).trans rfl; have yB22 := blk_frozen B2.out 2; have zB23 := (blk_cell B2.out 3).trans rfl; have yB23 := blk_frozen B2.out 3; have zB24 := (blk_cell B2.out 4).trans rfl; have yB24 := blk_frozen B2.out 4; have zB25 := (blk_cell B2.out 5).trans rfl; have yB25 := blk_frozen B2.out 5; have zB26 := (blk_cell B2.out 6).trans rfl; have yB26 := blk_frozen B2.out 6; have zB27 := (blk_cell B2.out 7).trans rfl; have yB27 := blk_frozen B2.out 7; have zB30 := (blk_cell B3.out 0).trans rfl; have yB30 := blk_frozen B3.out 0; have zB31 := (blk_cell B3.out 1).trans rfl; have yB31 := blk_frozen B3.out 1; have zB32 := (blk_cell B3.out 2).trans rfl; have yB32 := blk_frozen B3.out 2; have zB33 := (blk_cell B3.out 3).trans rfl; have yB33 := blk_frozen B3.out 3; have zB34 := (blk_cell B3.out 4).trans rfl; have yB34 := blk_frozen B3.out 4; have zB35 := (blk_cell B3.out 5).trans rfl; have yB35 := blk_frozen B3.out 5; have zB36 := (blk_cell B3.out 6).trans rfl; have yB36 := blk_frozen B3.out 6; have zB37 := (blk_cell B3.out 7).trans rfl; have yB37 := blk_frozen B3.out 7; have zB38 := (blk_cell B3.out 8).trans rfl; have yB38 := blk_frozen B3.out 8; have zB40 := (blk_cell B4.out 0).trans rfl; have yB40 := blk_frozen B4.out 0; have zB41 := (blk_cell B4.out 1).trans rfl; have yB41 := blk_frozen B4.out 1; have zB42 := (blk_cell B4.out 2).trans rfl; have yB42 := blk_frozen B4.out 2; have zB43 := (blk_cell B4.out 3).trans rfl; have yB43 := blk_frozen B4.out 3; have zB44 := (blk_cell B4.out 4).trans rfl; have yB44 := blk_frozen B4.out 4; have zB45 := (blk_cell B4.out 5).trans rfl; have yB45 := blk_frozen B4.out 5; have zB46 := (blk_cell B4.out 6).trans rfl; have yB46 := blk_frozen B4.out 6)
    | (go_at_call 24; refine (fail_c _ _).mono ?_; rintro e w2 ⟨rfl, hb⟩; have hP := Aside0.mk (hP.out.below hb); have hM := Aside0.mk (hM.out.below hb); have B2 := Aside0.mk (blk_below B2.out hb); have B3 := Aside0.mk (blk_below B3.out hb); have B4 := Aside0.mk (blk_below B4.out hb); have HB := Aside0.mk (HB.out.trans (hb.mono HB.out.size)); clear hb; have zB20 := (blk_cell B2.out 0).trans rfl; have yB20 := blk_frozen B2.out 0; have zB21 := (blk_cell B2.out 1).trans rfl; have yB21 := blk_frozen B2.out 1; have zB22 := (blk_cell B2.out 2).trans rfl; have yB22 := blk_frozen B2.out 2; have zB23 := (blk_cell B2.out 3).trans rfl; have yB23 := blk_frozen B2.out 3; have zB24 := (blk_cell B2.out 4).trans rfl; have yB24 := blk_frozen B2.out 4; have zB25 := (blk_cell B2.out 5).trans rfl; have yB25 := blk_frozen B2.out 5; have zB26 := (blk_cell B2.out 6).trans rfl; have yB26 := blk_frozen B2.out 6; have zB27 := (blk_cell B2.out 7).trans rfl; have yB27 := blk_frozen B2.out 7; have zB30 := (blk_cell B3.out 0).trans rfl; have yB30 := blk_frozen B3.out 0; have zB31 := (blk_cell B3.out 1).trans rfl; have yB31 := blk_frozen B3.out 1; have zB32 := (blk_cell B3.out 2).trans rfl; have yB32 := blk_frozen B3.out 2; have zB33 := (blk_cell B3.out 3).trans rfl; have yB33 := blk_frozen B3.out 3; have zB34 := (blk_cell B3.out 4).trans rfl; have yB34 := blk_frozen B3.out 4; have zB35 := (blk_cell B3.out 5).trans rfl; have yB35 := blk_frozen B3.out 5; have zB36 := (blk_cell B3.out 6).trans rfl; have yB36 := blk_frozen B3.out 6; have zB37 := (blk_cell B3.out 7).trans rfl; have yB37 := blk_frozen B3.out 7; have zB38 := (blk_cell B3.out 8).trans rfl; have yB38 := blk_frozen B3.out 8; have zB40 := (blk_cell B4.out 0).trans rfl; have yB40 := blk_frozen B4.out 0; have zB41 := (blk_cell B4.out 1).trans rfl; have yB41 := blk_frozen B4.out 1; have zB42 := (blk_cell B4.out 2).trans rfl; have yB42 := blk_frozen B4.out 2; have zB43 := (blk_cell B4.out 3).trans rfl; have yB43 := blk_frozen B4.out 3; have zB44 := (blk_cell B4.out 4).trans rfl; have yB44 := blk_frozen B4.out 4; have zB45 := (blk_cell B4.out 5).trans rfl; have yB45 := blk_frozen B4.out 5; have zB46 := (blk_cell B4.out 6).trans rfl; have yB46 := blk_frozen B4.out 6)
    | (go_at_call 24; refine (fail_c _ _).mono ?_; rintro e w2 ⟨rfl, hb⟩; have hP := Aside0.mk ((hP.out.alloc _).below hb); have hM := Aside0.mk ((hM.out.alloc _).below hb); have B2 := Aside0.mk (blk_below (blk_alloc B2.out _) hb); have B3 := Aside0.mk (blk_below (blk_alloc B3.out _) hb); have B4 := Aside0.mk (blk_below (blk_alloc B4.out _) hb); have HB := Aside0.mk ((below_alloc HB.out _).trans (hb.mono (below_alloc HB.out _).size)); clear hb; have zB20 := (blk_cell B2.out 0).trans rfl; have yB20 := blk_frozen B2.out 0; have zB21 := (blk_cell B2.out 1).trans rfl; have yB21 := blk_frozen B2.out 1; have zB22 := (blk_cell B2.out 2).trans rfl; have yB22 := blk_frozen B2.out 2; have zB23 := (blk_cell B2.out 3).trans rfl; have yB23 := blk_frozen B2.out 3; have zB24 := (blk_cell B2.out 4).trans rfl; have yB24 := blk_frozen B2.out 4; have zB25 := (blk_cell B2.out 5).trans rfl; have yB25 := blk_frozen B2.out 5; have zB26 := (blk_cell B2.out 6).trans rfl; have yB26 := blk_frozen B2.out 6; have zB27 := (blk_cell B2.out 7).trans rfl; have yB27 := blk_frozen B2.out 7; have zB30 := (blk_cell B3.out 0).trans rfl; have yB30 := blk_frozen B3.out 0; have zB31 := (blk_cell B3.out 1).trans rfl; have yB31 := blk_frozen B3.out 1; have zB32 := (blk_cell B3.out 2).trans rfl; have yB32 := blk_frozen B3.out 2; have zB33 := (blk_cell B3.out 3).trans rfl; have yB33 := blk_frozen B3.out 3; have zB34 := (blk_cell B3.out 4).trans rfl; have yB34 := blk_frozen B3.out 4; have zB35 := (blk_cell B3.out 5).trans rfl; have yB35 := blk_frozen B3.out 5; have zB36 := (blk_cell B3.out 6).trans rfl; have yB36 := blk_frozen B3.out 6; have zB37 := (blk_cell B3.out 7).trans rfl; have yB37 := blk_frozen B3.out 7; have zB38 := (blk_cell B3.out 8).trans rfl; have yB38 := blk_frozen B3.out 8; have zB40 := (blk_cell B4.out 0).trans rfl; have yB40 := blk_frozen B4.out 0; have zB41 := (blk_cell B4.out 1).trans rfl; have yB41 := blk_frozen B4.out 1; have zB42 := (blk_cell B4.out 2).trans rfl; have yB42 := blk_frozen B4.out 2; have zB43 := (blk_cell B4.out 3).trans rfl; have yB43 := blk_frozen B4.out 3; have zB44 := (blk_cell B4.out 4).trans rfl; have yB44 := blk_frozen B4.out 4; have zB45 := (blk_cell B4.out 5).trans rfl; have yB45 := blk_frozen B4.out 5; have zB46 := (blk_cell B4.out 6).trans rfl; have yB46 := blk_frozen B4.out 6)
    | (go_at_call 9; refine (find_c B d l m.f2 _ (HL.out.below HB.out).C HL.out.c HL.out.few HL.out.n).mono ?_; rintro e w3 ⟨u, v, rfl, hu5, hv6, hb⟩; rw [← HX.out.2.1] at hu5 hv6; rw [← HX.out.2.1]; obtain ⟨A5, c5, rfl⟩ := Kd.R_slice hu5; obtain ⟨A6, c6, rfl⟩ := Kd.R_slice hv6; have HPR := Aside0.mk (PR.mk (Kd.R_reads' hu5).2.2 (Kd.R_reads' hu5).2.1 (Kd.R_reads' hv6).2.2 (Kd.R_reads' hv6).2.1 HFEW.out); clear hu5 hv6; have hP := Aside0.mk (hP.out.below hb); have hM := Aside0.mk (hM.out.below hb); have B2 := Aside0.mk (blk_below B2.out hb); have B3 := Aside0.mk (blk_below B3.out hb); have B4 := Aside0.mk (blk_below B4.out hb); have HB := Aside0.mk (HB.out.trans (hb.mono HB.out.size)); clear hb; have zhP0 := hP.out 0 _ rfl; have zhP1 := hP.out 1 _ rfl; have zhP2 := hP.out 2 _ rfl; have zhP3 := hP.out 3 _ rfl; have zhP4 := hP.out 4 _ rfl; have zhP5 := hP.out 5 _ rfl; have zhP6 := hP.out 6 _ rfl; have zhP7 := hP.out 7 _ rfl; have zhM0 := hM.out 0 _ rfl; have zhM1 := hM.out 1 _ rfl; have zhM2 := hM.out 2 _ rfl; have zhM3 := hM.out 3 _ rfl; have zhM4 := hM.out 4 _ rfl; have zhM5 := hM.out 5 _ rfl; have zhM6 := hM.out 6 _ rfl; have zhM7 := hM.out 7 _ rfl; have zhM8 := hM.out 8 _ rfl; have ahP0 := fun X : Obj => (hP.out.alloc X) 0 _ rfl; have ahP1 := fun X : Obj => (hP.out.alloc X) 1 _ rfl; have ahP2 := fun X : Obj => (hP.out.alloc X) 2 _ rfl; have ahP3 := fun X : Obj => (hP.out.alloc X) 3 _ rfl; have ahP4 := fun X : Obj => (hP.out.alloc X) 4 _ rfl; have ahP5 := fun X : Obj => (hP.out.alloc X) 5 _ rfl; have ahP6 := fun X : Obj => (hP.out.alloc X) 6 _ rfl; have ahP7 := fun X : Obj => (hP.out.alloc X) 7 _ rfl; have ahM0 := fun X : Obj => (hM.out.alloc X) 0 _ rfl; have ahM1 := fun X : Obj => (hM.out.alloc X) 1 _ rfl; have ahM2 := fun X : Obj => (hM.out.alloc X) 2 _ rfl; have ahM3 := fun X : Obj => (hM.out.alloc X) 3 _ rfl; have ahM4 := fun X : Obj => (hM.out.alloc X) 4 _ rfl; have ahM5 := fun X : Obj => (hM.out.alloc X) 5 _ rfl; have ahM6 := fun X : Obj => (hM.out.alloc X) 6 _ rfl; have ahM7 := fun X : Obj => (hM.out.alloc X) 7 _ rfl; have ahM8 := fun X : Obj => (hM.out.alloc X) 8 _ rfl; have zB20 := (blk_cell B2.out 0).trans rfl; have yB20 := blk_frozen B2.out 0; have zB21 := (blk_cell B2.out 1).trans rfl; have yB21 := blk_frozen B2.out 1; have zB22 := (blk_cell B2.out 2).trans rfl; have yB22 := blk_frozen B2.out 2; have zB23 := (blk_cell B2.out 3).trans rfl; have yB23 := blk_frozen B2.out 3; have zB24 := (blk_cell B2.out 4).trans rfl; have yB24 := blk_frozen B2.out 4; have zB25 := (blk_cell B2.out 5).trans rfl; have yB25 := blk_frozen B2.out 5; have zB26 := (blk_cell B2.out 6).trans rfl; have yB26 := blk_frozen B2.out 6; have zB27 := (blk_cell B2.out 7).trans rfl; have yB27 := blk_frozen B2.out 7; have zB30 := (blk_cell B3.out 0).trans rfl; have yB30 := blk_frozen B3.out 0; have zB31 := (blk_cell B3.out 1).trans rfl; have yB31 := blk_frozen B3.out 1; have zB32 := (blk_cell B3.out 2).trans rfl; have yB32 := blk_frozen B3.out 2; have zB33 := (blk_cell B3.out 3).trans rfl; have yB33 := blk_frozen B3.out 3; have zB34 := (blk_cell B3.out 4).trans rfl; have yB34 := blk_frozen B3.out 4; have zB35 := (blk_cell B3.out 5).trans rfl; have yB35 := blk_frozen B3.out 5; have zB36 := (blk_cell B3.out 6).trans rfl; have yB36 := blk_frozen B3.out 6; have zB37 := (blk_cell B3.out 7).trans rfl; have yB37 := blk_frozen B3.out 7; have zB38 := (blk_cell B3.out 8).trans rfl; have yB38 := blk_frozen B3.out 8; have zB40 := (blk_cell B4.out 0).trans rfl; have yB40 := blk_frozen B4.out 0; have zB41 := (blk_cell B4.out 1).trans rfl; have yB41 := blk_frozen B4.out 1; have zB42 := (blk_cell B4.out 2).trans rfl; have yB42 := blk_frozen B4.out 2; have zB43 := (blk_cell B4.out 3).trans rfl; have yB43 := blk_frozen B4.out 3; have zB44 := (blk_cell B4.out 4).trans rfl; have yB44 := blk_frozen B4.out 4; have zB45 := (blk_cell B4.out 5).trans rfl; have yB45 := blk_frozen B4.out 5; have zB46 := (blk_cell B4.out 6).trans rfl; have yB46 := blk_frozen B4.out 6)
    | (go_at_call 25; refine (use_c p A5 c5 A6 c6 m g.f2 g.f1 t _ (HPR.out.below (below_alloc (Below.refl _ _) _))).mono ?_; rintro e w4 ⟨rfl, hb⟩; rw [← HX.out.2.2.1, ← HX.out.2.2.2]; have hP := Aside0.mk ((hP.out.alloc _).below hb); have hM := Aside0.mk ((hM.out.alloc _).below hb); have B2 := Aside0.mk (blk_below (blk_alloc B2.out _) hb); have B3 := Aside0.mk (blk_below (blk_alloc B3.out _) hb); have B4 := Aside0.mk (blk_below (blk_alloc B4.out _) hb); have HB := Aside0.mk ((below_alloc HB.out _).trans (hb.mono (below_alloc HB.out _).size)); clear hb; have zhP0 := hP.out 0 _ rfl; have zhP1 := hP.out 1 _ rfl; have zhP2 := hP.out 2 _ rfl; have zhP3 := hP.out 3 _ rfl; have zhP4 := hP.out 4 _ rfl; have zhP5 := hP.out 5 _ rfl; have zhP6 := hP.out 6 _ rfl; have zhP7 := hP.out 7 _ rfl; have zhM0 := hM.out 0 _ rfl; have zhM1 := hM.out 1 _ rfl; have zhM2 := hM.out 2 _ rfl; have zhM3 := hM.out 3 _ rfl; have zhM4 := hM.out 4 _ rfl; have zhM5 := hM.out 5 _ rfl; have zhM6 := hM.out 6 _ rfl; have zhM7 := hM.out 7 _ rfl; have zhM8 := hM.out 8 _ rfl; have ahP0 := fun X : Obj => (hP.out.alloc X) 0 _ rfl; have ahP1 := fun X : Obj => (hP.out.alloc X) 1 _ rfl; have ahP2 := fun X : Obj => (hP.out.alloc X) 2 _ rfl; have ahP3 := fun X : Obj => (hP.out.alloc X) 3 _ rfl; have ahP4 := fun X : Obj => (hP.out.alloc X) 4 _ rfl; have ahP5 := fun X : Obj => (hP.out.alloc X) 5 _ rfl; have ahP6 := fun X : Obj => (hP.out.alloc X) 6 _ rfl; have ahP7 := fun X : Obj => (hP.out.alloc X) 7 _ rfl; have ahM0 := fun X : Obj => (hM.out.alloc X) 0 _ rfl; have ahM1 := fun X : Obj => (hM.out.alloc X) 1 _ rfl; have ahM2 := fun X : Obj => (hM.out.alloc X) 2 _ rfl; have ahM3 := fun X : Obj => (hM.out.alloc X) 3 _ rfl; have ahM4 := fun X : Obj => (hM.out.alloc X) 4 _ rfl; have ahM5 := fun X : Obj => (hM.out.alloc X) 5 _ rfl; have ahM6 := fun X : Obj => (hM.out.alloc X) 6 _ rfl; have ahM7 := fun X : Obj => (hM.out.alloc X) 7 _ rfl; have ahM8 := fun X : Obj => (hM.out.alloc X) 8 _ rfl; have aahP0 := fun X Y : Obj => ((hP.out.alloc X).alloc Y) 0 _ rfl; have aahP1 := fun X Y : Obj => ((hP.out.alloc X).alloc Y) 1 _ rfl; have aahP2 := fun X Y : Obj => ((hP.out.alloc X).alloc Y) 2 _ rfl; have aahP3 := fun X Y : Obj => ((hP.out.alloc X).alloc Y) 3 _ rfl; have aahP4 := fun X Y : Obj => ((hP.out.alloc X).alloc Y) 4 _ rfl; have aahP5 := fun X Y : Obj => ((hP.out.alloc X).alloc Y) 5 _ rfl; have aahP6 := fun X Y : Obj => ((hP.out.alloc X).alloc Y) 6 _ rfl; have aahP7 := fun X Y : Obj => ((hP.out.alloc X).alloc Y) 7 _ rfl; have zB20 := (blk_cell B2.out 0).trans rfl; have yB20 := blk_frozen B2.out 0; have zB21 := (blk_cell B2.out 1).trans rfl; have yB21 := blk_frozen B2.out 1; have zB22 := (blk_cell B2.out 2).trans rfl; have yB22 := blk_frozen B2.out 2; have zB23 := (blk_cell B2.out 3).trans rfl; have yB23 := blk_frozen B2.out 3; have zB24 := (blk_cell B2.out 4).trans rfl; have yB24 := blk_frozen B2.out 4; have zB25 := (blk_cell B2.out 5).trans rfl; have yB25 := blk_frozen B2.out 5; have zB26 := (blk_cell B2.out 6).trans rfl; have yB26 := blk_frozen B2.out 6; have zB27 := (blk_cell B2.out 7).trans rfl; have yB27 := blk_frozen B2.out 7; have zB30 := (blk_cell B3.out 0).trans rfl; have yB30 := blk_frozen B3.out 0; have zB31 := (blk_cell B3.out 1).trans rfl; have yB31 := blk_frozen B3.out 1; have zB32 := (blk_cell B3.out 2).trans rfl; have yB32 := blk_frozen B3.out 2; have zB33 := (blk_cell B3.out 3).trans rfl; have yB33 := blk_frozen B3.out 3; have zB34 := (blk_cell B3.out 4).trans rfl; have yB34 := blk_frozen B3.out 4; have zB35 := (blk_cell B3.out 5).trans rfl; have yB35 := blk_frozen B3.out 5; have zB36 := (blk_cell B3.out 6).trans rfl; have yB36 := blk_frozen B3.out 6; have zB37 := (blk_cell B3.out 7).trans rfl; have yB37 := blk_frozen B3.out 7; have zB38 := (blk_cell B3.out 8).trans rfl; have yB38 := blk_frozen B3.out 8; have zB40 := (blk_cell B4.out 0).trans rfl; have yB40 := blk_frozen B4.out 0; have zB41 := (blk_cell B4.out 1).trans rfl; have yB41 := blk_frozen B4.out 1; have zB42 := (blk_cell B4.out 2).trans rfl; have yB42 := blk_frozen B4.out 2; have zB43 := (blk_cell B4.out 3).trans rfl; have yB43 := blk_frozen B4.out 3; have zB44 := (blk_cell B4.out 4).trans rfl; have yB44 := blk_frozen B4.out 4; have zB45 := (blk_cell B4.out 5).trans rfl; have yB45 := blk_frozen B4.out 5; have zB46 := (blk_cell B4.out 6).trans rfl; have yB46 := blk_frozen B4.out 6)
    | (go_at_call 26; have hb2 := below_alloc (below_alloc HB.out (.cells #[.int .i64 n.f0, .int .i64 n.f1, .int .i64 n.f2, .int .i64 n.f3, .int .i64 n.f4, .int .i64 n.f5, .int .i64 n.f6, .int .i64 n.f7, .int .u64 n.f8] 30)) (.cells #[.int .i64 g.f0, .int .i64 g.f3, .int .i64 m.f0, .int .i64 n.f1, .int .i64 m.f2, .int .i64 g.f1, .int .i64 t] 47); refine (copied_c g A c _ (HG.out.below hb2).C HG.out.c HG.out.few).mono ?_; rintro e w6 ⟨v7, rfl, hv7, hb⟩; obtain ⟨A7, c7, rfl⟩ := Kd.R_slice hv7; have B4a := B4; have hP := Aside0.mk (((hP.out.alloc _).alloc _).below hb); have hM := Aside0.mk (((hM.out.alloc _).alloc _).below hb); have B2 := Aside0.mk (blk_below (blk_alloc (blk_alloc B2.out _) _) hb); have B3 := Aside0.mk (blk_below (blk_alloc (blk_alloc B3.out _) _) hb); have B4 := Aside0.mk (blk_below (blk_alloc (blk_alloc B4.out _) _) hb); have HB := Aside0.mk ((below_alloc (below_alloc HB.out _) _).trans (hb.mono (below_alloc (below_alloc HB.out _) _).size)); have BN := Aside0.mk (blk_below (blk_alloc (blk_new w4 (.cells #[.int .i64 n.f0, .int .i64 n.f1, .int .i64 n.f2, .int .i64 n.f3, .int .i64 n.f4, .int .i64 n.f5, .int .i64 n.f6, .int .i64 n.f7, .int .u64 n.f8] 30)) (.cells #[.int .i64 g.f0, .int .i64 g.f3, .int .i64 m.f0, .int .i64 n.f1, .int .i64 m.f2, .int .i64 g.f1, .int .i64 t] 47)) hb); have BR := Aside0.mk (blk_below (blk_new1 w4 (.cells #[.int .i64 n.f0, .int .i64 n.f1, .int .i64 n.f2, .int .i64 n.f3, .int .i64 n.f4, .int .i64 n.f5, .int .i64 n.f6, .int .i64 n.f7, .int .u64 n.f8] 30) (.cells #[.int .i64 g.f0, .int .i64 g.f3, .int .i64 m.f0, .int .i64 n.f1, .int .i64 m.f2, .int .i64 g.f1, .int .i64 t] 47)) hb); have HV7 := Aside0.mk hv7; have HB2 := Aside0.mk hb2; clear hb hb2 hv7))
  all_goals first
    | (refine bodyPost_ret (results_list (rs := [.cell 8 27, .cell 9 30, .cell 10 47, .tmp 11]) rfl (by simp)
         (.cell (w.heap.size + 1 + 1) 27 _ (0, 0) _ rfl (by repeat (first | (with_reducible refine blk_other ?_ (by omega)) | (with_reducible exact blk_put8 (by repeat (first | (with_reducible refine blk_other ?_ (by omega)) | (with_reducible exact B2.out))) _ _ _ _ _ _ _ _))) Try.underlying27 rfl (by kernel_rfl)
         (.cell (w.heap.size + 1 + 1 + 1) 30 _ (0, 0) _ rfl (by repeat (first | (with_reducible refine blk_other ?_ (by omega)) | (with_reducible exact blk_put9 (by repeat (first | (with_reducible refine blk_other ?_ (by omega)) | (with_reducible exact B3.out))) _ _ _ _ _ _ _ _ _))) Try.underlying30 rfl (by kernel_rfl)
         (.cell (w.heap.size + 1 + 1 + 1 + 1) 47 _ (0, 0) _ rfl (by repeat (first | (with_reducible refine blk_other ?_ (by omega)) | (with_reducible exact blk_put7 (by repeat (first | (with_reducible refine blk_other ?_ (by omega)) | (with_reducible exact B4.out))) _ _ _ _ _ _ _))) Try.underlying47 rfl (by kernel_rfl)
         (.tmp .nil))))) rfl ?_
       refine ⟨.slice none 0 0, ?_, ?_, by repeat (first | (with_reducible refine below_set ?_ (by omega)) | (with_reducible exact HB.out))⟩
       · first
           | (rw [show r = (gz, mz, rz, 13) from HR.out.trans (by unfold passF; rw [← HX.out.1]; exact if_pos (by simpa using (by assumption : (dc != 0) = true)))]; rfl)
           | (rw [show r = (gz, mz, rz, 9) from HR.out.trans (by unfold passF; rw [← HX.out.1, if_neg (by simpa using (by assumption : (dc != 0) = false))]; exact if_pos (by omega))]; rfl)
           | (rw [show r = (gz, mz, rz, ue) from HR.out.trans (by unfold passF; rw [← HX.out.1, ← HX.out.2.1, ← HX.out.2.2.2, if_neg (by simpa using (by assumption : (dc != 0) = false)), if_neg (by omega)]; exact if_pos (by simpa using (by assumption : (ue != 0) = true)))]; rfl)
       · have hz : r.1.f6 = [] := by
           first
             | (rw [show r = (gz, mz, rz, 13) from HR.out.trans (by unfold passF; rw [← HX.out.1]; exact if_pos (by simpa using (by assumption : (dc != 0) = true)))]; rfl)
             | (rw [show r = (gz, mz, rz, 9) from HR.out.trans (by unfold passF; rw [← HX.out.1, if_neg (by simpa using (by assumption : (dc != 0) = false))]; exact if_pos (by omega))]; rfl)
             | (rw [show r = (gz, mz, rz, ue) from HR.out.trans (by unfold passF; rw [← HX.out.1, ← HX.out.2.1, ← HX.out.2.2.2, if_neg (by simpa using (by assumption : (dc != 0) = false)), if_neg (by omega)]; exact if_pos (by simpa using (by assumption : (ue != 0) = true)))]; rfl)
         rw [hz]
         exact Kd.R_nil _ _ _ _ _)
    | skip
  · skip
    have hdc0 : dc = 0 := by simpa using (by assumption : (dc != 0) = false)
    have hue0 : ue = 0 := by simpa using (by assumption : (ue != 0) = false)
    have hok := HOK.out hdc0 hue0
    have hlt4 := blk_lt B4a.out
    have hlt6 := blk_lt BR.out
    have hb8 : Below w6.heap.size w6 ((w6.alloc (.cells #[(.int .i64 g.f0), (.int .i64 g.f1), (.int .i64 g.f2), (.int .i64 (wrap64 (g.f3 + 1))), (.int .u64 g.f4), (.int .i64 g.f5), (.slice A7 g.f6.length c7), (.int .i64 g.f7)] 27)).drew) := below_drew (below_alloc (Below.refl _ _) _)
    have BO := Aside0.mk (blk_below (blk_new w6 (.cells #[(.int .i64 g.f0), (.int .i64 g.f1), (.int .i64 g.f2), (.int .i64 (wrap64 (g.f3 + 1))), (.int .u64 g.f4), (.int .i64 g.f5), (.slice A7 g.f6.length c7), (.int .i64 g.f7)] 27)) (below_drew (Below.refl _ _)))
    replace B2 := Aside0.mk (blk_below B2.out hb8)
    replace B3 := Aside0.mk (blk_below B3.out hb8)
    replace B4 := Aside0.mk (blk_below B4.out hb8)
    replace BN := Aside0.mk (blk_below BN.out hb8)
    replace BR := Aside0.mk (blk_below BR.out hb8)
    replace hP := Aside0.mk (hP.out.below hb8)
    replace HB := Aside0.mk (HB.out.trans (hb8.mono HB.out.size))
    replace HV7 := Aside0.mk (Kd.R_below (Kd.R_lower HV7.out (show w4.heap.size + 1 + 1 ≤ _ from Nat.le_of_eq (by simp))) hb8)
    clear hb8
    refine start_ (n := 10) (S := fun w' => w'.heap[w6.heap.size]? = some (.cells #[(.int .i64 g.f0), (.int .i64 g.f1), (.int .i64 g.f2), (.int .i64 (wrap64 (g.f3 + 1))), (.int .u64 g.f4), (.int .i64 g.f5), (.slice A7 g.f6.length c7), (.int .i64 g.f7)] 27 (0, 0)) ∧ w'.heap[w4.heap.size]? = some (.cells #[(.int .i64 n.f0), (.int .i64 n.f1), (.int .i64 n.f2), (.int .i64 n.f3), (.int .i64 n.f4), (.int .i64 n.f5), (.int .i64 n.f6), (.int .i64 n.f7), (.int .u64 n.f8)] 30 (0, 0)) ∧ w'.heap[w4.heap.size + 1]? = some (.cells #[(.int .i64 g.f0), (.int .i64 g.f3), (.int .i64 m.f0), (.int .i64 n.f1), (.int .i64 m.f2), (.int .i64 g.f1), (.int .i64 t)] 47 (0, 0)) ∧ w'.cell? ⟨w.heap.size, 4, none⟩ = some (.int .u64 g.f4)) (ds := []) #[false, false, false, false, false, false, false, false, false, false] (by kernel_rfl) rfl rfl ⟨BO.out, BN.out, BR.out, hP.out 4 _ rfl⟩ (fun hHeld => ?_); refine with_tabW st_tab13 st_bits13 (fun HT_ HW_ => ?_)
    generalize (w6.alloc (.cells #[(.int .i64 g.f0), (.int .i64 g.f1), (.int .i64 g.f2), (.int .i64 (wrap64 (g.f3 + 1))), (.int .u64 g.f4), (.int .i64 g.f5), (.slice A7 g.f6.length c7), (.int .i64 g.f7)] 27)).drew = w8 at BO B2 B3 B4 BN BR hP HB HV7 hHeld ⊢
    refine pure_ (i := 1) (N := some 88) (v := ?_) (a' := ?_) #[false, true, false, false, false, false, false, false, false, false] rfl rfl (any_of HT_.out (by kernel_rfl)) (fun _ _ _ h => h) (Or.inl ⟨by rfl, ?_⟩) ?_ ?_
    rotate_left
    · intro w'
      go_simp
      with_reducible rfl
    rotate_left
    · simp only [Act.put, List.setIfInBounds_toArray, List.set_cons_zero, List.set_cons_succ, i64_w, i32_w]
      rfl
    refine take_ (i := 0) (N := some 87) (v := ?_) (a' := ?_) #[true, true, false, false, false, false, false, false, false, false] rfl rfl (take_ofW HT_.out HW_.out (by kernel_rfl)) (fun _ _ _ h => h) (Or.inl ⟨by rfl, ?_⟩) hHeld ?_ ?_
    rotate_left
    · rintro w' ⟨s0, s1, s2, s3⟩
      have e0 := (blk_cell s0 0).trans rfl
      have e1 := (blk_cell s0 1).trans rfl
      have e2 := (blk_cell s0 2).trans rfl
      have e3 := (blk_cell s0 3).trans rfl
      have e4 := (blk_cell s0 4).trans rfl
      have e5 := (blk_cell s0 5).trans rfl
      have e6 := (blk_cell s0 6).trans rfl
      have e7 := (blk_cell s0 7).trans rfl
      go_simp
      with_reducible rfl
    rotate_left
    · simp only [Act.put, List.setIfInBounds_toArray, List.set_cons_zero, List.set_cons_succ, i64_w, i32_w]
      rfl
    refine take_ (i := 2) (N := some 89) (v := ?_) (a' := ?_) #[true, true, true, false, false, false, false, false, false, false] rfl rfl (take_ofW HT_.out HW_.out (by kernel_rfl)) (fun _ _ _ h => h) (Or.inl ⟨by rfl, ?_⟩) hHeld ?_ ?_
    rotate_left
    · rintro w' ⟨s0, s1, s2, s3⟩
      go_simp
      with_reducible rfl
    rotate_left
    · simp only [Act.put, List.setIfInBounds_toArray, List.set_cons_zero, List.set_cons_succ, i64_w, i32_w]
      rfl
    refine take_ (i := 3) (N := some 90) (v := ?_) (a' := ?_) #[true, true, true, true, false, false, false, false, false, false] rfl rfl (take_ofW HT_.out HW_.out (by kernel_rfl)) (fun _ _ _ h => h) (Or.inl ⟨by rfl, ?_⟩) hHeld ?_ ?_
    rotate_left
    · rintro w' ⟨s0, s1, s2, s3⟩
      have e0 := (blk_cell s1 0).trans rfl
      have e1 := (blk_cell s1 1).trans rfl
      have e2 := (blk_cell s1 2).trans rfl
      have e3 := (blk_cell s1 3).trans rfl
      have e4 := (blk_cell s1 4).trans rfl
      have e5 := (blk_cell s1 5).trans rfl
      have e6 := (blk_cell s1 6).trans rfl
      have e7 := (blk_cell s1 7).trans rfl
      have e8 := (blk_cell s1 8).trans rfl
      go_simp
      with_reducible rfl
    rotate_left
    · simp only [Act.put, List.setIfInBounds_toArray, List.set_cons_zero, List.set_cons_succ, i64_w, i32_w]
      rfl
    refine take_ (i := 5) (N := some 92) (v := ?_) (a' := ?_) #[true, true, true, true, false, true, false, false, false, false] rfl rfl (take_ofW HT_.out HW_.out (by kernel_rfl)) (fun _ _ _ h => h) (Or.inl ⟨by rfl, ?_⟩) hHeld ?_ ?_
    rotate_left
    · rintro w' ⟨s0, s1, s2, s3⟩
      have e0 := (blk_cell s2 0).trans rfl
      have e1 := (blk_cell s2 1).trans rfl
      have e2 := (blk_cell s2 2).trans rfl
      have e3 := (blk_cell s2 3).trans rfl
      have e4 := (blk_cell s2 4).trans rfl
      have e5 := (blk_cell s2 5).trans rfl
      have e6 := (blk_cell s2 6).trans rfl
      go_simp
      with_reducible rfl
    rotate_left
    · simp only [Act.put, List.setIfInBounds_toArray, List.set_cons_zero, List.set_cons_succ, i64_w, i32_w]
      rfl
    refine one_ (i := 4) (N := some 91) #[true, true, true, true, true, true, false, false, false, false] rfl rfl (one_of HT_.out (by kernel_rfl)) (by decide) (fun K hK => ?_)
    refine goes_ Try.func19 (by kernel_rfl) rfl #[.int .u64 g.f4, .agg #[.int .i64 n.f0, .int .i64 n.f1, .int .i64 n.f2, .int .i64 n.f3, .int .i64 n.f4, .int .i64 n.f5, .int .i64 n.f6, .int .i64 n.f7, .int .u64 n.f8]] (by rfl) rfl rfl (by (try simp only [List.map_toArray, List.map_cons, List.map_nil]); first | done | rfl) ?_
    refine (sign_c g.f4 n _ hok).mono ?_
    rintro e w9 ⟨rfl, hb⟩
    refine ⟨_, rfl, ?_⟩
    replace B2 := Aside0.mk (blk_below B2.out hb)
    replace B3 := Aside0.mk (blk_below B3.out hb)
    replace B4 := Aside0.mk (blk_below B4.out hb)
    replace BN := Aside0.mk (blk_below BN.out hb)
    replace BR := Aside0.mk (blk_below BR.out hb)
    replace BO := Aside0.mk (blk_below BO.out hb)
    replace hP := Aside0.mk (hP.out.below hb)
    replace HB := Aside0.mk (HB.out.trans (hb.mono HB.out.size))
    replace HV7 := Aside0.mk (Kd.R_below HV7.out hb)
    clear hb hHeld
    refine hK.out _ _ ⟨BO.out, BN.out, BR.out, hP.out 4 _ rfl⟩ (fun hHeld => ?_)
    clear hK K
    refine norm_ (a' := ?_) ?_ ?_
    rotate_left
    · show Act.put _ (some 91) _ = _
      simp only [Act.put, List.setIfInBounds_toArray, List.set_cons_zero, List.set_cons_succ, i64_w, i32_w]
      rfl
    have K4 := Aside0.mk (hP.out 4 _ rfl)
    refine one_ (i := 6) (N := none) #[true, true, true, true, true, true, true, false, false, false] rfl rfl (one_of HT_.out (by kernel_rfl)) (by decide) (fun K hK => ?_)
    have hs0 : w9.cell? ⟨w.heap.size + 1 + 1, 0, none⟩ = some (.int .i64 0) := (blk_cell B2.out 0).trans rfl
    have hfs0 := blk_frozen B2.out 0
    have hs1 : w9.cell? ⟨w.heap.size + 1 + 1, 1, none⟩ = some (.int .i64 0) := (blk_cell B2.out 1).trans rfl
    have hfs1 := blk_frozen B2.out 1
    have hs2 : w9.cell? ⟨w.heap.size + 1 + 1, 2, none⟩ = some (.int .i64 0) := (blk_cell B2.out 2).trans rfl
    have hfs2 := blk_frozen B2.out 2
    have hs3 : w9.cell? ⟨w.heap.size + 1 + 1, 3, none⟩ = some (.int .i64 0) := (blk_cell B2.out 3).trans rfl
    have hfs3 := blk_frozen B2.out 3
    have hs4 : w9.cell? ⟨w.heap.size + 1 + 1, 4, none⟩ = some (.int .u64 0) := (blk_cell B2.out 4).trans rfl
    have hfs4 := blk_frozen B2.out 4
    have hs5 : w9.cell? ⟨w.heap.size + 1 + 1, 5, none⟩ = some (.int .i64 0) := (blk_cell B2.out 5).trans rfl
    have hfs5 := blk_frozen B2.out 5
    have hs6 : w9.cell? ⟨w.heap.size + 1 + 1, 6, none⟩ = some (.slice none 0 0) := (blk_cell B2.out 6).trans rfl
    have hfs6 := blk_frozen B2.out 6
    have hs7 : w9.cell? ⟨w.heap.size + 1 + 1, 7, none⟩ = some (.int .i64 0) := (blk_cell B2.out 7).trans rfl
    have hfs7 := blk_frozen B2.out 7
    refine skip_ (w1 := ?_) (by rfl) rfl ?_ ?_
    rotate_left
    · go_simp
      rfl
    have HBE := Aside0.mk (show Below w.heap.size w ((((((((w9.setCell ⟨w.heap.size + 1 + 1, 0, none⟩ (.int .i64 g.f0)).setCell ⟨w.heap.size + 1 + 1, 1, none⟩ (.int .i64 g.f1)).setCell ⟨w.heap.size + 1 + 1, 2, none⟩ (.int .i64 g.f2)).setCell ⟨w.heap.size + 1 + 1, 3, none⟩ (.int .i64 (wrap64 (g.f3 + 1)))).setCell ⟨w.heap.size + 1 + 1, 4, none⟩ (.int .u64 g.f4)).setCell ⟨w.heap.size + 1 + 1, 5, none⟩ (.int .i64 g.f5)).setCell ⟨w.heap.size + 1 + 1, 6, none⟩ (.slice A7 g.f6.length c7)).setCell ⟨w.heap.size + 1 + 1, 7, none⟩ (.int .i64 g.f7)) from by repeat (first | (with_reducible refine below_set ?_ (by omega)) | (with_reducible exact HB.out)))
    have RE := Aside0.mk (show Kd.R (Kd.int .i64) 3 ((((((((w9.setCell ⟨w.heap.size + 1 + 1, 0, none⟩ (.int .i64 g.f0)).setCell ⟨w.heap.size + 1 + 1, 1, none⟩ (.int .i64 g.f1)).setCell ⟨w.heap.size + 1 + 1, 2, none⟩ (.int .i64 g.f2)).setCell ⟨w.heap.size + 1 + 1, 3, none⟩ (.int .i64 (wrap64 (g.f3 + 1)))).setCell ⟨w.heap.size + 1 + 1, 4, none⟩ (.int .u64 g.f4)).setCell ⟨w.heap.size + 1 + 1, 5, none⟩ (.int .i64 g.f5)).setCell ⟨w.heap.size + 1 + 1, 6, none⟩ (.slice A7 g.f6.length c7)).setCell ⟨w.heap.size + 1 + 1, 7, none⟩ (.int .i64 g.f7)) (w4.heap.size + 1 + 1) (fun _ => True) (.slice A7 g.f6.length c7) g.f6 from by repeat (first | (with_reducible refine R_low ?_ (by omega)) | (with_reducible exact HV7.out)))
    have X2 := Aside0.mk (blk_put8 B2.out (.int .i64 g.f0) (.int .i64 g.f1) (.int .i64 g.f2) (.int .i64 (wrap64 (g.f3 + 1))) (.int .u64 g.f4) (.int .i64 g.f5) (.slice A7 g.f6.length c7) (.int .i64 g.f7))
    have nB3 := Aside0.mk (show ((((((((w9.setCell ⟨w.heap.size + 1 + 1, 0, none⟩ (.int .i64 g.f0)).setCell ⟨w.heap.size + 1 + 1, 1, none⟩ (.int .i64 g.f1)).setCell ⟨w.heap.size + 1 + 1, 2, none⟩ (.int .i64 g.f2)).setCell ⟨w.heap.size + 1 + 1, 3, none⟩ (.int .i64 (wrap64 (g.f3 + 1)))).setCell ⟨w.heap.size + 1 + 1, 4, none⟩ (.int .u64 g.f4)).setCell ⟨w.heap.size + 1 + 1, 5, none⟩ (.int .i64 g.f5)).setCell ⟨w.heap.size + 1 + 1, 6, none⟩ (.slice A7 g.f6.length c7)).setCell ⟨w.heap.size + 1 + 1, 7, none⟩ (.int .i64 g.f7)).heap[w.heap.size + 1 + 1 + 1]? = some (.cells #[.int .i64 0, .int .i64 0, .int .i64 0, .int .i64 0, .int .i64 0, .int .i64 0, .int .i64 0, .int .i64 0, .int .u64 0] 30 (0, 0)) from by repeat (first | (with_reducible refine blk_other ?_ (by omega)) | (with_reducible exact B3.out)))
    have nB4 := Aside0.mk (show ((((((((w9.setCell ⟨w.heap.size + 1 + 1, 0, none⟩ (.int .i64 g.f0)).setCell ⟨w.heap.size + 1 + 1, 1, none⟩ (.int .i64 g.f1)).setCell ⟨w.heap.size + 1 + 1, 2, none⟩ (.int .i64 g.f2)).setCell ⟨w.heap.size + 1 + 1, 3, none⟩ (.int .i64 (wrap64 (g.f3 + 1)))).setCell ⟨w.heap.size + 1 + 1, 4, none⟩ (.int .u64 g.f4)).setCell ⟨w.heap.size + 1 + 1, 5, none⟩ (.int .i64 g.f5)).setCell ⟨w.heap.size + 1 + 1, 6, none⟩ (.slice A7 g.f6.length c7)).setCell ⟨w.heap.size + 1 + 1, 7, none⟩ (.int .i64 g.f7)).heap[w.heap.size + 1 + 1 + 1 + 1]? = some (.cells #[.int .i64 0, .int .i64 0, .int .i64 0, .int .i64 0, .int .i64 0, .int .i64 0, .int .i64 0] 47 (0, 0)) from by repeat (first | (with_reducible refine blk_other ?_ (by omega)) | (with_reducible exact B4.out)))
    have nBO := Aside0.mk (show ((((((((w9.setCell ⟨w.heap.size + 1 + 1, 0, none⟩ (.int .i64 g.f0)).setCell ⟨w.heap.size + 1 + 1, 1, none⟩ (.int .i64 g.f1)).setCell ⟨w.heap.size + 1 + 1, 2, none⟩ (.int .i64 g.f2)).setCell ⟨w.heap.size + 1 + 1, 3, none⟩ (.int .i64 (wrap64 (g.f3 + 1)))).setCell ⟨w.heap.size + 1 + 1, 4, none⟩ (.int .u64 g.f4)).setCell ⟨w.heap.size + 1 + 1, 5, none⟩ (.int .i64 g.f5)).setCell ⟨w.heap.size + 1 + 1, 6, none⟩ (.slice A7 g.f6.length c7)).setCell ⟨w.heap.size + 1 + 1, 7, none⟩ (.int .i64 g.f7)).heap[w6.heap.size]? = some (.cells #[(.int .i64 g.f0), (.int .i64 g.f1), (.int .i64 g.f2), (.int .i64 (wrap64 (g.f3 + 1))), (.int .u64 g.f4), (.int .i64 g.f5), (.slice A7 g.f6.length c7), (.int .i64 g.f7)] 27 (0, 0)) from by repeat (first | (with_reducible refine blk_other ?_ (by omega)) | (with_reducible exact BO.out)))
    have nBN := Aside0.mk (show ((((((((w9.setCell ⟨w.heap.size + 1 + 1, 0, none⟩ (.int .i64 g.f0)).setCell ⟨w.heap.size + 1 + 1, 1, none⟩ (.int .i64 g.f1)).setCell ⟨w.heap.size + 1 + 1, 2, none⟩ (.int .i64 g.f2)).setCell ⟨w.heap.size + 1 + 1, 3, none⟩ (.int .i64 (wrap64 (g.f3 + 1)))).setCell ⟨w.heap.size + 1 + 1, 4, none⟩ (.int .u64 g.f4)).setCell ⟨w.heap.size + 1 + 1, 5, none⟩ (.int .i64 g.f5)).setCell ⟨w.heap.size + 1 + 1, 6, none⟩ (.slice A7 g.f6.length c7)).setCell ⟨w.heap.size + 1 + 1, 7, none⟩ (.int .i64 g.f7)).heap[w4.heap.size]? = some (.cells #[(.int .i64 n.f0), (.int .i64 n.f1), (.int .i64 n.f2), (.int .i64 n.f3), (.int .i64 n.f4), (.int .i64 n.f5), (.int .i64 n.f6), (.int .i64 n.f7), (.int .u64 n.f8)] 30 (0, 0)) from by repeat (first | (with_reducible refine blk_other ?_ (by omega)) | (with_reducible exact BN.out)))
    have nBR := Aside0.mk (show ((((((((w9.setCell ⟨w.heap.size + 1 + 1, 0, none⟩ (.int .i64 g.f0)).setCell ⟨w.heap.size + 1 + 1, 1, none⟩ (.int .i64 g.f1)).setCell ⟨w.heap.size + 1 + 1, 2, none⟩ (.int .i64 g.f2)).setCell ⟨w.heap.size + 1 + 1, 3, none⟩ (.int .i64 (wrap64 (g.f3 + 1)))).setCell ⟨w.heap.size + 1 + 1, 4, none⟩ (.int .u64 g.f4)).setCell ⟨w.heap.size + 1 + 1, 5, none⟩ (.int .i64 g.f5)).setCell ⟨w.heap.size + 1 + 1, 6, none⟩ (.slice A7 g.f6.length c7)).setCell ⟨w.heap.size + 1 + 1, 7, none⟩ (.int .i64 g.f7)).heap[w4.heap.size + 1]? = some (.cells #[(.int .i64 g.f0), (.int .i64 g.f3), (.int .i64 m.f0), (.int .i64 n.f1), (.int .i64 m.f2), (.int .i64 g.f1), (.int .i64 t)] 47 (0, 0)) from by repeat (first | (with_reducible refine blk_other ?_ (by omega)) | (with_reducible exact BR.out)))
    have nK := Aside0.mk (show ((((((((w9.setCell ⟨w.heap.size + 1 + 1, 0, none⟩ (.int .i64 g.f0)).setCell ⟨w.heap.size + 1 + 1, 1, none⟩ (.int .i64 g.f1)).setCell ⟨w.heap.size + 1 + 1, 2, none⟩ (.int .i64 g.f2)).setCell ⟨w.heap.size + 1 + 1, 3, none⟩ (.int .i64 (wrap64 (g.f3 + 1)))).setCell ⟨w.heap.size + 1 + 1, 4, none⟩ (.int .u64 g.f4)).setCell ⟨w.heap.size + 1 + 1, 5, none⟩ (.int .i64 g.f5)).setCell ⟨w.heap.size + 1 + 1, 6, none⟩ (.slice A7 g.f6.length c7)).setCell ⟨w.heap.size + 1 + 1, 7, none⟩ (.int .i64 g.f7)).cell? ⟨w.heap.size, 4, none⟩ = some (.int .u64 g.f4) from by repeat (first | (with_reducible refine cell_other ?_ (by omega)) | (with_reducible exact K4.out)))
    clear hHeld HB HV7 K4 hs0 hfs0 hs1 hfs1 hs2 hfs2 hs3 hfs3 hs4 hfs4 hs5 hfs5 hs6 hfs6 hs7 hfs7 B2 B3 B4 BO BN BR
    refine hK.out _ _ ⟨nBO.out, nBN.out, nBR.out, nK.out⟩ (fun hHeld => ?_)
    clear hK K
    generalize ((((((((w9.setCell ⟨w.heap.size + 1 + 1, 0, none⟩ (.int .i64 g.f0)).setCell ⟨w.heap.size + 1 + 1, 1, none⟩ (.int .i64 g.f1)).setCell ⟨w.heap.size + 1 + 1, 2, none⟩ (.int .i64 g.f2)).setCell ⟨w.heap.size + 1 + 1, 3, none⟩ (.int .i64 (wrap64 (g.f3 + 1)))).setCell ⟨w.heap.size + 1 + 1, 4, none⟩ (.int .u64 g.f4)).setCell ⟨w.heap.size + 1 + 1, 5, none⟩ (.int .i64 g.f5)).setCell ⟨w.heap.size + 1 + 1, 6, none⟩ (.slice A7 g.f6.length c7)).setCell ⟨w.heap.size + 1 + 1, 7, none⟩ (.int .i64 g.f7)) = w10 at hHeld HBE RE X2 nB3 nB4 nBO nBN nBR nK ⊢
    have HB := HBE
    have HV7 := RE
    have B2 := X2
    have K4 := nK
    have B3 := nB3
    have B4 := nB4
    have BO := nBO
    have BN := nBN
    have BR := nBR
    clear HBE RE X2 nK nB3 nB4 nBO nBN nBR
    refine one_ (i := 7) (N := none) #[true, true, true, true, true, true, true, true, false, false] rfl rfl (one_of HT_.out (by kernel_rfl)) (by decide) (fun K hK => ?_)
    have hs0 : w10.cell? ⟨w.heap.size + 1 + 1 + 1, 0, none⟩ = some (.int .i64 0) := (blk_cell B3.out 0).trans rfl
    have hfs0 := blk_frozen B3.out 0
    have hs1 : w10.cell? ⟨w.heap.size + 1 + 1 + 1, 1, none⟩ = some (.int .i64 0) := (blk_cell B3.out 1).trans rfl
    have hfs1 := blk_frozen B3.out 1
    have hs2 : w10.cell? ⟨w.heap.size + 1 + 1 + 1, 2, none⟩ = some (.int .i64 0) := (blk_cell B3.out 2).trans rfl
    have hfs2 := blk_frozen B3.out 2
    have hs3 : w10.cell? ⟨w.heap.size + 1 + 1 + 1, 3, none⟩ = some (.int .i64 0) := (blk_cell B3.out 3).trans rfl
    have hfs3 := blk_frozen B3.out 3
    have hs4 : w10.cell? ⟨w.heap.size + 1 + 1 + 1, 4, none⟩ = some (.int .i64 0) := (blk_cell B3.out 4).trans rfl
    have hfs4 := blk_frozen B3.out 4
    have hs5 : w10.cell? ⟨w.heap.size + 1 + 1 + 1, 5, none⟩ = some (.int .i64 0) := (blk_cell B3.out 5).trans rfl
    have hfs5 := blk_frozen B3.out 5
    have hs6 : w10.cell? ⟨w.heap.size + 1 + 1 + 1, 6, none⟩ = some (.int .i64 0) := (blk_cell B3.out 6).trans rfl
    have hfs6 := blk_frozen B3.out 6
    have hs7 : w10.cell? ⟨w.heap.size + 1 + 1 + 1, 7, none⟩ = some (.int .i64 0) := (blk_cell B3.out 7).trans rfl
    have hfs7 := blk_frozen B3.out 7
    have hs8 : w10.cell? ⟨w.heap.size + 1 + 1 + 1, 8, none⟩ = some (.int .u64 0) := (blk_cell B3.out 8).trans rfl
    have hfs8 := blk_frozen B3.out 8
    refine skip_ (w1 := ?_) (by rfl) rfl ?_ ?_
    rotate_left
    · go_simp
      rfl
    have HBE := Aside0.mk (show Below w.heap.size w (((((((((w10.setCell ⟨w.heap.size + 1 + 1 + 1, 0, none⟩ (.int .i64 n.f0)).setCell ⟨w.heap.size + 1 + 1 + 1, 1, none⟩ (.int .i64 n.f1)).setCell ⟨w.heap.size + 1 + 1 + 1, 2, none⟩ (.int .i64 n.f2)).setCell ⟨w.heap.size + 1 + 1 + 1, 3, none⟩ (.int .i64 n.f3)).setCell ⟨w.heap.size + 1 + 1 + 1, 4, none⟩ (.int .i64 n.f4)).setCell ⟨w.heap.size + 1 + 1 + 1, 5, none⟩ (.int .i64 n.f5)).setCell ⟨w.heap.size + 1 + 1 + 1, 6, none⟩ (.int .i64 n.f6)).setCell ⟨w.heap.size + 1 + 1 + 1, 7, none⟩ (.int .i64 n.f7)).setCell ⟨w.heap.size + 1 + 1 + 1, 8, none⟩ (.int .u64 (signT g.f4 n.f0 n.f1 n.f2 n.f3 n.f4 n.f5 n.f6 n.f7))) from by repeat (first | (with_reducible refine below_set ?_ (by omega)) | (with_reducible exact HB.out)))
    have RE := Aside0.mk (show Kd.R (Kd.int .i64) 3 (((((((((w10.setCell ⟨w.heap.size + 1 + 1 + 1, 0, none⟩ (.int .i64 n.f0)).setCell ⟨w.heap.size + 1 + 1 + 1, 1, none⟩ (.int .i64 n.f1)).setCell ⟨w.heap.size + 1 + 1 + 1, 2, none⟩ (.int .i64 n.f2)).setCell ⟨w.heap.size + 1 + 1 + 1, 3, none⟩ (.int .i64 n.f3)).setCell ⟨w.heap.size + 1 + 1 + 1, 4, none⟩ (.int .i64 n.f4)).setCell ⟨w.heap.size + 1 + 1 + 1, 5, none⟩ (.int .i64 n.f5)).setCell ⟨w.heap.size + 1 + 1 + 1, 6, none⟩ (.int .i64 n.f6)).setCell ⟨w.heap.size + 1 + 1 + 1, 7, none⟩ (.int .i64 n.f7)).setCell ⟨w.heap.size + 1 + 1 + 1, 8, none⟩ (.int .u64 (signT g.f4 n.f0 n.f1 n.f2 n.f3 n.f4 n.f5 n.f6 n.f7))) (w4.heap.size + 1 + 1) (fun _ => True) (.slice A7 g.f6.length c7) g.f6 from by repeat (first | (with_reducible refine R_low ?_ (by omega)) | (with_reducible exact HV7.out)))
    have X2 := Aside0.mk (blk_put9 B3.out (.int .i64 n.f0) (.int .i64 n.f1) (.int .i64 n.f2) (.int .i64 n.f3) (.int .i64 n.f4) (.int .i64 n.f5) (.int .i64 n.f6) (.int .i64 n.f7) (.int .u64 (signT g.f4 n.f0 n.f1 n.f2 n.f3 n.f4 n.f5 n.f6 n.f7)))
    have nB2 := Aside0.mk (show (((((((((w10.setCell ⟨w.heap.size + 1 + 1 + 1, 0, none⟩ (.int .i64 n.f0)).setCell ⟨w.heap.size + 1 + 1 + 1, 1, none⟩ (.int .i64 n.f1)).setCell ⟨w.heap.size + 1 + 1 + 1, 2, none⟩ (.int .i64 n.f2)).setCell ⟨w.heap.size + 1 + 1 + 1, 3, none⟩ (.int .i64 n.f3)).setCell ⟨w.heap.size + 1 + 1 + 1, 4, none⟩ (.int .i64 n.f4)).setCell ⟨w.heap.size + 1 + 1 + 1, 5, none⟩ (.int .i64 n.f5)).setCell ⟨w.heap.size + 1 + 1 + 1, 6, none⟩ (.int .i64 n.f6)).setCell ⟨w.heap.size + 1 + 1 + 1, 7, none⟩ (.int .i64 n.f7)).setCell ⟨w.heap.size + 1 + 1 + 1, 8, none⟩ (.int .u64 (signT g.f4 n.f0 n.f1 n.f2 n.f3 n.f4 n.f5 n.f6 n.f7))).heap[w.heap.size + 1 + 1]? = some (.cells #[(.int .i64 g.f0), (.int .i64 g.f1), (.int .i64 g.f2), (.int .i64 (wrap64 (g.f3 + 1))), (.int .u64 g.f4), (.int .i64 g.f5), (.slice A7 g.f6.length c7), (.int .i64 g.f7)] 27 (0, 0)) from by repeat (first | (with_reducible refine blk_other ?_ (by omega)) | (with_reducible exact B2.out)))
    have nB4 := Aside0.mk (show (((((((((w10.setCell ⟨w.heap.size + 1 + 1 + 1, 0, none⟩ (.int .i64 n.f0)).setCell ⟨w.heap.size + 1 + 1 + 1, 1, none⟩ (.int .i64 n.f1)).setCell ⟨w.heap.size + 1 + 1 + 1, 2, none⟩ (.int .i64 n.f2)).setCell ⟨w.heap.size + 1 + 1 + 1, 3, none⟩ (.int .i64 n.f3)).setCell ⟨w.heap.size + 1 + 1 + 1, 4, none⟩ (.int .i64 n.f4)).setCell ⟨w.heap.size + 1 + 1 + 1, 5, none⟩ (.int .i64 n.f5)).setCell ⟨w.heap.size + 1 + 1 + 1, 6, none⟩ (.int .i64 n.f6)).setCell ⟨w.heap.size + 1 + 1 + 1, 7, none⟩ (.int .i64 n.f7)).setCell ⟨w.heap.size + 1 + 1 + 1, 8, none⟩ (.int .u64 (signT g.f4 n.f0 n.f1 n.f2 n.f3 n.f4 n.f5 n.f6 n.f7))).heap[w.heap.size + 1 + 1 + 1 + 1]? = some (.cells #[.int .i64 0, .int .i64 0, .int .i64 0, .int .i64 0, .int .i64 0, .int .i64 0, .int .i64 0] 47 (0, 0)) from by repeat (first | (with_reducible refine blk_other ?_ (by omega)) | (with_reducible exact B4.out)))
    have nBO := Aside0.mk (show (((((((((w10.setCell ⟨w.heap.size + 1 + 1 + 1, 0, none⟩ (.int .i64 n.f0)).setCell ⟨w.heap.size + 1 + 1 + 1, 1, none⟩ (.int .i64 n.f1)).setCell ⟨w.heap.size + 1 + 1 + 1, 2, none⟩ (.int .i64 n.f2)).setCell ⟨w.heap.size + 1 + 1 + 1, 3, none⟩ (.int .i64 n.f3)).setCell ⟨w.heap.size + 1 + 1 + 1, 4, none⟩ (.int .i64 n.f4)).setCell ⟨w.heap.size + 1 + 1 + 1, 5, none⟩ (.int .i64 n.f5)).setCell ⟨w.heap.size + 1 + 1 + 1, 6, none⟩ (.int .i64 n.f6)).setCell ⟨w.heap.size + 1 + 1 + 1, 7, none⟩ (.int .i64 n.f7)).setCell ⟨w.heap.size + 1 + 1 + 1, 8, none⟩ (.int .u64 (signT g.f4 n.f0 n.f1 n.f2 n.f3 n.f4 n.f5 n.f6 n.f7))).heap[w6.heap.size]? = some (.cells #[(.int .i64 g.f0), (.int .i64 g.f1), (.int .i64 g.f2), (.int .i64 (wrap64 (g.f3 + 1))), (.int .u64 g.f4), (.int .i64 g.f5), (.slice A7 g.f6.length c7), (.int .i64 g.f7)] 27 (0, 0)) from by repeat (first | (with_reducible refine blk_other ?_ (by omega)) | (with_reducible exact BO.out)))
    have nBN := Aside0.mk (show (((((((((w10.setCell ⟨w.heap.size + 1 + 1 + 1, 0, none⟩ (.int .i64 n.f0)).setCell ⟨w.heap.size + 1 + 1 + 1, 1, none⟩ (.int .i64 n.f1)).setCell ⟨w.heap.size + 1 + 1 + 1, 2, none⟩ (.int .i64 n.f2)).setCell ⟨w.heap.size + 1 + 1 + 1, 3, none⟩ (.int .i64 n.f3)).setCell ⟨w.heap.size + 1 + 1 + 1, 4, none⟩ (.int .i64 n.f4)).setCell ⟨w.heap.size + 1 + 1 + 1, 5, none⟩ (.int .i64 n.f5)).setCell ⟨w.heap.size + 1 + 1 + 1, 6, none⟩ (.int .i64 n.f6)).setCell ⟨w.heap.size + 1 + 1 + 1, 7, none⟩ (.int .i64 n.f7)).setCell ⟨w.heap.size + 1 + 1 + 1, 8, none⟩ (.int .u64 (signT g.f4 n.f0 n.f1 n.f2 n.f3 n.f4 n.f5 n.f6 n.f7))).heap[w4.heap.size]? = some (.cells #[(.int .i64 n.f0), (.int .i64 n.f1), (.int .i64 n.f2), (.int .i64 n.f3), (.int .i64 n.f4), (.int .i64 n.f5), (.int .i64 n.f6), (.int .i64 n.f7), (.int .u64 n.f8)] 30 (0, 0)) from by repeat (first | (with_reducible refine blk_other ?_ (by omega)) | (with_reducible exact BN.out)))
    have nBR := Aside0.mk (show (((((((((w10.setCell ⟨w.heap.size + 1 + 1 + 1, 0, none⟩ (.int .i64 n.f0)).setCell ⟨w.heap.size + 1 + 1 + 1, 1, none⟩ (.int .i64 n.f1)).setCell ⟨w.heap.size + 1 + 1 + 1, 2, none⟩ (.int .i64 n.f2)).setCell ⟨w.heap.size + 1 + 1 + 1, 3, none⟩ (.int .i64 n.f3)).setCell ⟨w.heap.size + 1 + 1 + 1, 4, none⟩ (.int .i64 n.f4)).setCell ⟨w.heap.size + 1 + 1 + 1, 5, none⟩ (.int .i64 n.f5)).setCell ⟨w.heap.size + 1 + 1 + 1, 6, none⟩ (.int .i64 n.f6)).setCell ⟨w.heap.size + 1 + 1 + 1, 7, none⟩ (.int .i64 n.f7)).setCell ⟨w.heap.size + 1 + 1 + 1, 8, none⟩ (.int .u64 (signT g.f4 n.f0 n.f1 n.f2 n.f3 n.f4 n.f5 n.f6 n.f7))).heap[w4.heap.size + 1]? = some (.cells #[(.int .i64 g.f0), (.int .i64 g.f3), (.int .i64 m.f0), (.int .i64 n.f1), (.int .i64 m.f2), (.int .i64 g.f1), (.int .i64 t)] 47 (0, 0)) from by repeat (first | (with_reducible refine blk_other ?_ (by omega)) | (with_reducible exact BR.out)))
    have nK := Aside0.mk (show (((((((((w10.setCell ⟨w.heap.size + 1 + 1 + 1, 0, none⟩ (.int .i64 n.f0)).setCell ⟨w.heap.size + 1 + 1 + 1, 1, none⟩ (.int .i64 n.f1)).setCell ⟨w.heap.size + 1 + 1 + 1, 2, none⟩ (.int .i64 n.f2)).setCell ⟨w.heap.size + 1 + 1 + 1, 3, none⟩ (.int .i64 n.f3)).setCell ⟨w.heap.size + 1 + 1 + 1, 4, none⟩ (.int .i64 n.f4)).setCell ⟨w.heap.size + 1 + 1 + 1, 5, none⟩ (.int .i64 n.f5)).setCell ⟨w.heap.size + 1 + 1 + 1, 6, none⟩ (.int .i64 n.f6)).setCell ⟨w.heap.size + 1 + 1 + 1, 7, none⟩ (.int .i64 n.f7)).setCell ⟨w.heap.size + 1 + 1 + 1, 8, none⟩ (.int .u64 (signT g.f4 n.f0 n.f1 n.f2 n.f3 n.f4 n.f5 n.f6 n.f7))).cell? ⟨w.heap.size, 4, none⟩ = some (.int .u64 g.f4) from by repeat (first | (with_reducible refine cell_other ?_ (by omega)) | (with_reducible exact K4.out)))
    clear hHeld HB HV7 K4 hs0 hfs0 hs1 hfs1 hs2 hfs2 hs3 hfs3 hs4 hfs4 hs5 hfs5 hs6 hfs6 hs7 hfs7 hs8 hfs8 B2 B3 B4 BO BN BR
    refine hK.out _ _ ⟨nBO.out, nBN.out, nBR.out, nK.out⟩ (fun hHeld => ?_)
    clear hK K
    generalize (((((((((w10.setCell ⟨w.heap.size + 1 + 1 + 1, 0, none⟩ (.int .i64 n.f0)).setCell ⟨w.heap.size + 1 + 1 + 1, 1, none⟩ (.int .i64 n.f1)).setCell ⟨w.heap.size + 1 + 1 + 1, 2, none⟩ (.int .i64 n.f2)).setCell ⟨w.heap.size + 1 + 1 + 1, 3, none⟩ (.int .i64 n.f3)).setCell ⟨w.heap.size + 1 + 1 + 1, 4, none⟩ (.int .i64 n.f4)).setCell ⟨w.heap.size + 1 + 1 + 1, 5, none⟩ (.int .i64 n.f5)).setCell ⟨w.heap.size + 1 + 1 + 1, 6, none⟩ (.int .i64 n.f6)).setCell ⟨w.heap.size + 1 + 1 + 1, 7, none⟩ (.int .i64 n.f7)).setCell ⟨w.heap.size + 1 + 1 + 1, 8, none⟩ (.int .u64 (signT g.f4 n.f0 n.f1 n.f2 n.f3 n.f4 n.f5 n.f6 n.f7))) = w11 at hHeld HBE RE X2 nB2 nB4 nBO nBN nBR nK ⊢
    have HB := HBE
    have HV7 := RE
    have B3 := X2
    have K4 := nK
    have B2 := nB2
    have B4 := nB4
    have BO := nBO
    have BN := nBN
    have BR := nBR
    clear HBE RE X2 nK nB2 nB4 nBO nBN nBR
    refine one_ (i := 8) (N := none) #[true, true, true, true, true, true, true, true, true, false] rfl rfl (one_of HT_.out (by kernel_rfl)) (by decide) (fun K hK => ?_)
    have hs0 : w11.cell? ⟨w.heap.size + 1 + 1 + 1 + 1, 0, none⟩ = some (.int .i64 0) := (blk_cell B4.out 0).trans rfl
    have hfs0 := blk_frozen B4.out 0
    have hs1 : w11.cell? ⟨w.heap.size + 1 + 1 + 1 + 1, 1, none⟩ = some (.int .i64 0) := (blk_cell B4.out 1).trans rfl
    have hfs1 := blk_frozen B4.out 1
    have hs2 : w11.cell? ⟨w.heap.size + 1 + 1 + 1 + 1, 2, none⟩ = some (.int .i64 0) := (blk_cell B4.out 2).trans rfl
    have hfs2 := blk_frozen B4.out 2
    have hs3 : w11.cell? ⟨w.heap.size + 1 + 1 + 1 + 1, 3, none⟩ = some (.int .i64 0) := (blk_cell B4.out 3).trans rfl
    have hfs3 := blk_frozen B4.out 3
    have hs4 : w11.cell? ⟨w.heap.size + 1 + 1 + 1 + 1, 4, none⟩ = some (.int .i64 0) := (blk_cell B4.out 4).trans rfl
    have hfs4 := blk_frozen B4.out 4
    have hs5 : w11.cell? ⟨w.heap.size + 1 + 1 + 1 + 1, 5, none⟩ = some (.int .i64 0) := (blk_cell B4.out 5).trans rfl
    have hfs5 := blk_frozen B4.out 5
    have hs6 : w11.cell? ⟨w.heap.size + 1 + 1 + 1 + 1, 6, none⟩ = some (.int .i64 0) := (blk_cell B4.out 6).trans rfl
    have hfs6 := blk_frozen B4.out 6
    refine skip_ (w1 := ?_) (by rfl) rfl ?_ ?_
    rotate_left
    · go_simp
      rfl
    have HBE := Aside0.mk (show Below w.heap.size w (((((((w11.setCell ⟨w.heap.size + 1 + 1 + 1 + 1, 0, none⟩ (.int .i64 g.f0)).setCell ⟨w.heap.size + 1 + 1 + 1 + 1, 1, none⟩ (.int .i64 g.f3)).setCell ⟨w.heap.size + 1 + 1 + 1 + 1, 2, none⟩ (.int .i64 m.f0)).setCell ⟨w.heap.size + 1 + 1 + 1 + 1, 3, none⟩ (.int .i64 n.f1)).setCell ⟨w.heap.size + 1 + 1 + 1 + 1, 4, none⟩ (.int .i64 m.f2)).setCell ⟨w.heap.size + 1 + 1 + 1 + 1, 5, none⟩ (.int .i64 g.f1)).setCell ⟨w.heap.size + 1 + 1 + 1 + 1, 6, none⟩ (.int .i64 t)) from by repeat (first | (with_reducible refine below_set ?_ (by omega)) | (with_reducible exact HB.out)))
    have RE := Aside0.mk (show Kd.R (Kd.int .i64) 3 (((((((w11.setCell ⟨w.heap.size + 1 + 1 + 1 + 1, 0, none⟩ (.int .i64 g.f0)).setCell ⟨w.heap.size + 1 + 1 + 1 + 1, 1, none⟩ (.int .i64 g.f3)).setCell ⟨w.heap.size + 1 + 1 + 1 + 1, 2, none⟩ (.int .i64 m.f0)).setCell ⟨w.heap.size + 1 + 1 + 1 + 1, 3, none⟩ (.int .i64 n.f1)).setCell ⟨w.heap.size + 1 + 1 + 1 + 1, 4, none⟩ (.int .i64 m.f2)).setCell ⟨w.heap.size + 1 + 1 + 1 + 1, 5, none⟩ (.int .i64 g.f1)).setCell ⟨w.heap.size + 1 + 1 + 1 + 1, 6, none⟩ (.int .i64 t)) (w4.heap.size + 1 + 1) (fun _ => True) (.slice A7 g.f6.length c7) g.f6 from by repeat (first | (with_reducible refine R_low ?_ (by omega)) | (with_reducible exact HV7.out)))
    have X2 := Aside0.mk (blk_put7 B4.out (.int .i64 g.f0) (.int .i64 g.f3) (.int .i64 m.f0) (.int .i64 n.f1) (.int .i64 m.f2) (.int .i64 g.f1) (.int .i64 t))
    have nB2 := Aside0.mk (show (((((((w11.setCell ⟨w.heap.size + 1 + 1 + 1 + 1, 0, none⟩ (.int .i64 g.f0)).setCell ⟨w.heap.size + 1 + 1 + 1 + 1, 1, none⟩ (.int .i64 g.f3)).setCell ⟨w.heap.size + 1 + 1 + 1 + 1, 2, none⟩ (.int .i64 m.f0)).setCell ⟨w.heap.size + 1 + 1 + 1 + 1, 3, none⟩ (.int .i64 n.f1)).setCell ⟨w.heap.size + 1 + 1 + 1 + 1, 4, none⟩ (.int .i64 m.f2)).setCell ⟨w.heap.size + 1 + 1 + 1 + 1, 5, none⟩ (.int .i64 g.f1)).setCell ⟨w.heap.size + 1 + 1 + 1 + 1, 6, none⟩ (.int .i64 t)).heap[w.heap.size + 1 + 1]? = some (.cells #[(.int .i64 g.f0), (.int .i64 g.f1), (.int .i64 g.f2), (.int .i64 (wrap64 (g.f3 + 1))), (.int .u64 g.f4), (.int .i64 g.f5), (.slice A7 g.f6.length c7), (.int .i64 g.f7)] 27 (0, 0)) from by repeat (first | (with_reducible refine blk_other ?_ (by omega)) | (with_reducible exact B2.out)))
    have nB3 := Aside0.mk (show (((((((w11.setCell ⟨w.heap.size + 1 + 1 + 1 + 1, 0, none⟩ (.int .i64 g.f0)).setCell ⟨w.heap.size + 1 + 1 + 1 + 1, 1, none⟩ (.int .i64 g.f3)).setCell ⟨w.heap.size + 1 + 1 + 1 + 1, 2, none⟩ (.int .i64 m.f0)).setCell ⟨w.heap.size + 1 + 1 + 1 + 1, 3, none⟩ (.int .i64 n.f1)).setCell ⟨w.heap.size + 1 + 1 + 1 + 1, 4, none⟩ (.int .i64 m.f2)).setCell ⟨w.heap.size + 1 + 1 + 1 + 1, 5, none⟩ (.int .i64 g.f1)).setCell ⟨w.heap.size + 1 + 1 + 1 + 1, 6, none⟩ (.int .i64 t)).heap[w.heap.size + 1 + 1 + 1]? = some (.cells #[(.int .i64 n.f0), (.int .i64 n.f1), (.int .i64 n.f2), (.int .i64 n.f3), (.int .i64 n.f4), (.int .i64 n.f5), (.int .i64 n.f6), (.int .i64 n.f7), (.int .u64 (signT g.f4 n.f0 n.f1 n.f2 n.f3 n.f4 n.f5 n.f6 n.f7))] 30 (0, 0)) from by repeat (first | (with_reducible refine blk_other ?_ (by omega)) | (with_reducible exact B3.out)))
    have nBO := Aside0.mk (show (((((((w11.setCell ⟨w.heap.size + 1 + 1 + 1 + 1, 0, none⟩ (.int .i64 g.f0)).setCell ⟨w.heap.size + 1 + 1 + 1 + 1, 1, none⟩ (.int .i64 g.f3)).setCell ⟨w.heap.size + 1 + 1 + 1 + 1, 2, none⟩ (.int .i64 m.f0)).setCell ⟨w.heap.size + 1 + 1 + 1 + 1, 3, none⟩ (.int .i64 n.f1)).setCell ⟨w.heap.size + 1 + 1 + 1 + 1, 4, none⟩ (.int .i64 m.f2)).setCell ⟨w.heap.size + 1 + 1 + 1 + 1, 5, none⟩ (.int .i64 g.f1)).setCell ⟨w.heap.size + 1 + 1 + 1 + 1, 6, none⟩ (.int .i64 t)).heap[w6.heap.size]? = some (.cells #[(.int .i64 g.f0), (.int .i64 g.f1), (.int .i64 g.f2), (.int .i64 (wrap64 (g.f3 + 1))), (.int .u64 g.f4), (.int .i64 g.f5), (.slice A7 g.f6.length c7), (.int .i64 g.f7)] 27 (0, 0)) from by repeat (first | (with_reducible refine blk_other ?_ (by omega)) | (with_reducible exact BO.out)))
    have nBN := Aside0.mk (show (((((((w11.setCell ⟨w.heap.size + 1 + 1 + 1 + 1, 0, none⟩ (.int .i64 g.f0)).setCell ⟨w.heap.size + 1 + 1 + 1 + 1, 1, none⟩ (.int .i64 g.f3)).setCell ⟨w.heap.size + 1 + 1 + 1 + 1, 2, none⟩ (.int .i64 m.f0)).setCell ⟨w.heap.size + 1 + 1 + 1 + 1, 3, none⟩ (.int .i64 n.f1)).setCell ⟨w.heap.size + 1 + 1 + 1 + 1, 4, none⟩ (.int .i64 m.f2)).setCell ⟨w.heap.size + 1 + 1 + 1 + 1, 5, none⟩ (.int .i64 g.f1)).setCell ⟨w.heap.size + 1 + 1 + 1 + 1, 6, none⟩ (.int .i64 t)).heap[w4.heap.size]? = some (.cells #[(.int .i64 n.f0), (.int .i64 n.f1), (.int .i64 n.f2), (.int .i64 n.f3), (.int .i64 n.f4), (.int .i64 n.f5), (.int .i64 n.f6), (.int .i64 n.f7), (.int .u64 n.f8)] 30 (0, 0)) from by repeat (first | (with_reducible refine blk_other ?_ (by omega)) | (with_reducible exact BN.out)))
    have nBR := Aside0.mk (show (((((((w11.setCell ⟨w.heap.size + 1 + 1 + 1 + 1, 0, none⟩ (.int .i64 g.f0)).setCell ⟨w.heap.size + 1 + 1 + 1 + 1, 1, none⟩ (.int .i64 g.f3)).setCell ⟨w.heap.size + 1 + 1 + 1 + 1, 2, none⟩ (.int .i64 m.f0)).setCell ⟨w.heap.size + 1 + 1 + 1 + 1, 3, none⟩ (.int .i64 n.f1)).setCell ⟨w.heap.size + 1 + 1 + 1 + 1, 4, none⟩ (.int .i64 m.f2)).setCell ⟨w.heap.size + 1 + 1 + 1 + 1, 5, none⟩ (.int .i64 g.f1)).setCell ⟨w.heap.size + 1 + 1 + 1 + 1, 6, none⟩ (.int .i64 t)).heap[w4.heap.size + 1]? = some (.cells #[(.int .i64 g.f0), (.int .i64 g.f3), (.int .i64 m.f0), (.int .i64 n.f1), (.int .i64 m.f2), (.int .i64 g.f1), (.int .i64 t)] 47 (0, 0)) from by repeat (first | (with_reducible refine blk_other ?_ (by omega)) | (with_reducible exact BR.out)))
    have nK := Aside0.mk (show (((((((w11.setCell ⟨w.heap.size + 1 + 1 + 1 + 1, 0, none⟩ (.int .i64 g.f0)).setCell ⟨w.heap.size + 1 + 1 + 1 + 1, 1, none⟩ (.int .i64 g.f3)).setCell ⟨w.heap.size + 1 + 1 + 1 + 1, 2, none⟩ (.int .i64 m.f0)).setCell ⟨w.heap.size + 1 + 1 + 1 + 1, 3, none⟩ (.int .i64 n.f1)).setCell ⟨w.heap.size + 1 + 1 + 1 + 1, 4, none⟩ (.int .i64 m.f2)).setCell ⟨w.heap.size + 1 + 1 + 1 + 1, 5, none⟩ (.int .i64 g.f1)).setCell ⟨w.heap.size + 1 + 1 + 1 + 1, 6, none⟩ (.int .i64 t)).cell? ⟨w.heap.size, 4, none⟩ = some (.int .u64 g.f4) from by repeat (first | (with_reducible refine cell_other ?_ (by omega)) | (with_reducible exact K4.out)))
    clear hHeld HB HV7 K4 hs0 hfs0 hs1 hfs1 hs2 hfs2 hs3 hfs3 hs4 hfs4 hs5 hfs5 hs6 hfs6 B2 B3 B4 BO BN BR
    refine hK.out _ _ ⟨nBO.out, nBN.out, nBR.out, nK.out⟩ (fun hHeld => ?_)
    clear hK K
    generalize (((((((w11.setCell ⟨w.heap.size + 1 + 1 + 1 + 1, 0, none⟩ (.int .i64 g.f0)).setCell ⟨w.heap.size + 1 + 1 + 1 + 1, 1, none⟩ (.int .i64 g.f3)).setCell ⟨w.heap.size + 1 + 1 + 1 + 1, 2, none⟩ (.int .i64 m.f0)).setCell ⟨w.heap.size + 1 + 1 + 1 + 1, 3, none⟩ (.int .i64 n.f1)).setCell ⟨w.heap.size + 1 + 1 + 1 + 1, 4, none⟩ (.int .i64 m.f2)).setCell ⟨w.heap.size + 1 + 1 + 1 + 1, 5, none⟩ (.int .i64 g.f1)).setCell ⟨w.heap.size + 1 + 1 + 1 + 1, 6, none⟩ (.int .i64 t)) = w12 at hHeld HBE RE X2 nB2 nB3 nBO nBN nBR nK ⊢
    have HB := HBE
    have HV7 := RE
    have B4 := X2
    have K4 := nK
    have B2 := nB2
    have B3 := nB3
    have BO := nBO
    have BN := nBN
    have BR := nBR
    clear HBE RE X2 nK nB2 nB3 nBO nBN nBR
    refine pure_ (i := 9) (N := some 11) (v := ?_) (a' := ?_) #[true, true, true, true, true, true, true, true, true, true] rfl rfl (any_of HT_.out (by kernel_rfl)) (fun _ _ _ h => h) (Or.inl ⟨by rfl, ?_⟩) ?_ ?_
    rotate_left
    · intro w'
      go_simp
      with_reducible rfl
    rotate_left
    · simp only [Act.put, List.setIfInBounds_toArray, List.set_cons_zero, List.set_cons_succ, i64_w, i32_w]
      rfl
    clear hHeld
    refine done_ (done_of HT_.out (by kernel_rfl)) ?_
    try go_wp2
    refine bodyPost_ret (results_list (rs := [.cell 8 27, .cell 9 30, .cell 10 47, .tmp 11]) rfl (by simp)
      (.cell (w.heap.size + 1 + 1) 27 _ (0, 0) _ rfl B2.out Try.underlying27 rfl (by kernel_rfl)
      (.cell (w.heap.size + 1 + 1 + 1) 30 _ (0, 0) _ rfl B3.out Try.underlying30 rfl (by kernel_rfl)
      (.cell (w.heap.size + 1 + 1 + 1 + 1) 47 _ (0, 0) _ rfl B4.out Try.underlying47 rfl (by kernel_rfl)
      (.tmp .nil))))) rfl ?_
    refine ⟨.slice A7 g.f6.length c7, ?_, ?_, HB.out⟩
    · rw [HR.out.trans (pass_ok hdc0 hue0 HX.out (by assumption))]; rfl
    · rw [HR.out.trans (pass_ok hdc0 hue0 HX.out (by assumption))]; exact Kd.R_lower HV7.out (by omega)
end Go.Proofs.Ytbfflokkdahjjaa.PV
