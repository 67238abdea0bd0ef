/- gate.Decide: the reason of a gate. Conditions: the gate's list is in order, and the lists are few enough to be copied. -/
import Derived.Test.YtbfflokkdahjjaaGUse
namespace Go.Proofs.Ytbfflokkdahjjaa.PV
open Go.RowKit Go.Proofs.Ytbfflokkdahjjaa.PAll Go.Proofs.Ytbfflokkdahjjaa.Pure Go.Proofs.YtbfflokkdahjjaaW.PrintWords Go.Proofs.YtbfflokkdahjjaaW.PrintLast Go.Proofs.YtbfflokkdahjjaaW.PrintMore
set_option linter.unusedVariables false
set_option linter.unusedSimpArgs false
/-- A gate whose list can be read, and is in order. -/
structure GR (w : World) (g : G8) (A : Option Addr) (c : Nat) : Prop where
  C : Kd.C (Kd.int .i64) w A g.f6.length g.f6
  c : g.f6.length ≤ c
  inc : Inc g.f6
  few : g.f6.length ≤ 1000000
theorem GR.below {w w1 : World} {g : G8} {A : Option Addr} {c : Nat} (h : GR w g A c) (hb : Below w.heap.size w w1) : GR w1 g A c := ⟨Kd.C_below h.C hb, h.c, h.inc, h.few⟩
/-- Products that can be read. -/
structure LR (w : World) (l : List (S40)) (A : Option Addr) (c : Nat) : Prop where
  C : Kd.C k40 w A l.length l
  c : l.length ≤ c
  few : Few l
  n : l.length ≤ 1000000
theorem LR.below {w w1 : World} {l : List (S40)} {A : Option Addr} {c : Nat} (h : LR w l A c) (hb : Below w.heap.size w w1) : LR w1 l A c := ⟨Kd.C_below h.C hb, h.c, h.few, h.n⟩
theorem find_few {l : List (S40)} (h : Few l) (id : Int) : (findP l id).1.f5.length ≤ 1000000 := by
  cases hb : (findP l id).2 with
  | true => exact (h _ (find_id l id hb).1).1
  | false =>
    have : ∀ l : List (S40), (findP l id).2 = false → (findP l id).1.f5 = [] := by
      intro l
      induction l with
      | nil => intro _; rfl
      | cons p l ih =>
        intro h
        unfold findP at h ⊢
        by_cases e : p.f0 = id
        · rw [if_pos e] at h; simp at h
        · rw [if_neg e] at h ⊢; exact ih h
    rw [this l hb]
    simp
def decideF (g : G8) (l : List (S40)) (m : M9) (t : Int) : Int :=
  if t < g.f7 ∨ wrap64 (t - g.f7) ≥ 86400 then 9 else if chk g.f4 m = false then 1 else if m.f0 ∈ g.f6 then 2
  else if (findP l m.f2).2 = false then 3 else why (findP l m.f2).1 m g.f2 g.f1 t
set_option maxHeartbeats 4000000 in
theorem decide_c (g : G8) (A : Option Addr) (c : Nat) (l : List (S40)) (B : Option Addr) (d : Nat) (m : M9) (t : Int) (w : World) (h : GR w g A c) (hl : LR w l B d) :
    Calls Try.prog 8 #[.agg #[.int .i64 g.f0, .int .i64 g.f1, .int .i64 g.f2, .int .i64 g.f3, .int .u64 g.f4, .int .i64 g.f5, .slice A g.f6.length c, .int .i64 g.f7], .slice B l.length d, .agg #[.int .i64 m.f0, .int .i64 m.f1, .int .i64 m.f2, .int .i64 m.f3, .int .i64 m.f4, .int .i64 m.f5, .int .i64 m.f6, .int .i64 m.f7, .int .u64 m.f8], .int .i64 t] w fun e w' => e = .returned (.int .i64 (decideF g l m t)) ∧ Below w.heap.size w w' := by
  have hu := Try.underlying27
  have hu2 := Try.underlying30
  have hu3 := Try.underlying40
  have hu4 := Try.underlying25
  have HG := Aside0.mk h
  have HL := Aside0.mk hl
  obtain ⟨r, hr⟩ : ∃ r, r = decideF g l m t := ⟨_, rfl⟩
  rw [← hr]
  have HR := Aside0.mk hr
  obtain ⟨ck, hck⟩ : ∃ x, x = chk g.f4 m := ⟨_, rfl⟩
  obtain ⟨on, hon⟩ : ∃ x, x = decide (m.f0 ∈ g.f6) := ⟨_, rfl⟩
  obtain ⟨ok, hok⟩ : ∃ x, x = (findP l m.f2).2 := ⟨_, rfl⟩
  obtain ⟨p, hp⟩ : ∃ x, x = (findP l m.f2).1 := ⟨_, rfl⟩
  obtain ⟨y, hy⟩ : ∃ x, x = why p m g.f2 g.f1 t := ⟨_, rfl⟩
  have HFEW := Aside0.mk (show p.f5.length ≤ 1000000 from by rw [hp]; exact find_few hl.few m.f2)
  have HX := Aside0.mk (And.intro hck (And.intro hon (And.intro hok (And.intro hp hy))))
  obtain ⟨wz, hwz⟩ : ∃ W, W = (w.alloc (.cells #[.int .i64 g.f0, .int .i64 g.f1, .int .i64 g.f2, .int .i64 g.f3, .int .u64 g.f4, .int .i64 g.f5, .slice A g.f6.length c, .int .i64 g.f7] 27)).alloc (.cells #[.int .i64 m.f0, .int .i64 m.f1, .int .i64 m.f2, .int .i64 m.f3, .int .i64 m.f4, .int .i64 m.f5, .int .i64 m.f6, .int .i64 m.f7, .int .u64 m.f8] 30) := ⟨_, rfl⟩
  have hP := Aside0.mk (show At wz w.heap.size (#[.int .i64 g.f0, .int .i64 g.f1, .int .i64 g.f2, .int .i64 g.f3, .int .u64 g.f4, .int .i64 g.f5, .slice A g.f6.length c, .int .i64 g.f7]).toList from by rw [hwz]; exact (At.new w _ 27 w.heap.size rfl).alloc _)
  have hM := Aside0.mk (show At wz (w.heap.size + 1) (#[.int .i64 m.f0, .int .i64 m.f1, .int .i64 m.f2, .int .i64 m.f3, .int .i64 m.f4, .int .i64 m.f5, .int .i64 m.f6, .int .i64 m.f7, .int .u64 m.f8]).toList from by rw [hwz]; exact At.new _ _ 30 (w.heap.size + 1) (by simp))
  have HB := Aside0.mk (show Below w.heap.size w wz from by rw [hwz]; exact below_alloc (below_alloc (Below.refl w.heap.size w) _) _)
  have HWZ := Aside0.mk hwz
  clear hr h hl hck hon hok hp hy hwz
  go_enter Try.func8, Try.ntmps8
  go_wp2_with (first
    | (go_at_call 10; rw [← HWZ.out]; refine (check_c g.f4 m _).mono ?_; rintro e w1 ⟨rfl, hb⟩; rw [← HX.out.1]; have hP := Aside0.mk (hP.out.below hb); have hM := Aside0.mk (hM.out.below hb); have HB := Aside0.mk (HB.out.trans (hb.mono HB.out.size)); clear hb; have zhP0 := hP.out 0 _ rfl; have zhP1 := hP.out 1 _ rfl; have zhP2 := hP.out 2 _ rfl; have zhP3 := hP.out 3 _ rfl; have zhP4 := hP.out 4 _ rfl; have zhP5 := hP.out 5 _ rfl; have zhP6 := hP.out 6 _ rfl; have zhP7 := hP.out 7 _ rfl; have zhM0 := hM.out 0 _ rfl; have zhM1 := hM.out 1 _ rfl; have zhM2 := hM.out 2 _ rfl; have zhM3 := hM.out 3 _ rfl; have zhM4 := hM.out 4 _ rfl; have zhM5 := hM.out 5 _ rfl; have zhM6 := hM.out 6 _ rfl; have zhM7 := hM.out 7 _ rfl; have zhM8 := hM.out 8 _ rfl)
    | (go_at_call 11; refine (has_c g.f5 A c g.f6 m.f0 _ (HG.out.below HB.out).C HG.out.c HG.out.inc HG.out.few).mono ?_; rintro e w2 ⟨rfl, hb⟩; rw [← HX.out.2.1]; have hP := Aside0.mk (hP.out.below hb); have hM := Aside0.mk (hM.out.below hb); have HB := Aside0.mk (HB.out.trans (hb.mono HB.out.size)); clear hb; have zhP0 := hP.out 0 _ rfl; have zhP1 := hP.out 1 _ rfl; have zhP2 := hP.out 2 _ rfl; have zhP3 := hP.out 3 _ rfl; have zhP4 := hP.out 4 _ rfl; have zhP5 := hP.out 5 _ rfl; have zhP6 := hP.out 6 _ rfl; have zhP7 := hP.out 7 _ rfl; have zhM0 := hM.out 0 _ rfl; have zhM1 := hM.out 1 _ rfl; have zhM2 := hM.out 2 _ rfl; have zhM3 := hM.out 3 _ rfl; have zhM4 := hM.out 4 _ rfl; have zhM5 := hM.out 5 _ rfl; have zhM6 := hM.out 6 _ rfl; have zhM7 := hM.out 7 _ rfl; have zhM8 := hM.out 8 _ rfl)
    | (go_at_call 9; refine (find_c B d l m.f2 _ (HL.out.below HB.out).C HL.out.c HL.out.few HL.out.n).mono ?_; rintro e w3 ⟨u, v, rfl, hu5, hv6, hb⟩; rw [← HX.out.2.2.2.1] at hu5 hv6; rw [← HX.out.2.2.1, ← HX.out.2.2.2.1]; obtain ⟨A5, c5, rfl⟩ := Kd.R_slice hu5; obtain ⟨A6, c6, rfl⟩ := Kd.R_slice hv6; have HPR := Aside0.mk (PR.mk (Kd.R_reads' hu5).2.2 (Kd.R_reads' hu5).2.1 (Kd.R_reads' hv6).2.2 (Kd.R_reads' hv6).2.1 HFEW.out); clear hu5 hv6; have hP := Aside0.mk (hP.out.below hb); have hM := Aside0.mk (hM.out.below hb); have HB := Aside0.mk (HB.out.trans (hb.mono HB.out.size)); clear hb; have zhP0 := hP.out 0 _ rfl; have zhP1 := hP.out 1 _ rfl; have zhP2 := hP.out 2 _ rfl; have zhP3 := hP.out 3 _ rfl; have zhP4 := hP.out 4 _ rfl; have zhP5 := hP.out 5 _ rfl; have zhP6 := hP.out 6 _ rfl; have zhP7 := hP.out 7 _ rfl; have zhM0 := hM.out 0 _ rfl; have zhM1 := hM.out 1 _ rfl; have zhM2 := hM.out 2 _ rfl; have zhM3 := hM.out 3 _ rfl; have zhM4 := hM.out 4 _ rfl; have zhM5 := hM.out 5 _ rfl; have zhM6 := hM.out 6 _ rfl; have zhM7 := hM.out 7 _ rfl; have zhM8 := hM.out 8 _ rfl; have ahP0 := fun X : Obj => (hP.out.alloc X) 0 _ rfl; have ahP1 := fun X : Obj => (hP.out.alloc X) 1 _ rfl; have ahP2 := fun X : Obj => (hP.out.alloc X) 2 _ rfl; have ahP3 := fun X : Obj => (hP.out.alloc X) 3 _ rfl; have ahP4 := fun X : Obj => (hP.out.alloc X) 4 _ rfl; have ahP5 := fun X : Obj => (hP.out.alloc X) 5 _ rfl; have ahP6 := fun X : Obj => (hP.out.alloc X) 6 _ rfl; have ahP7 := fun X : Obj => (hP.out.alloc X) 7 _ rfl; have ahM0 := fun X : Obj => (hM.out.alloc X) 0 _ rfl; have ahM1 := fun X : Obj => (hM.out.alloc X) 1 _ rfl; have ahM2 := fun X : Obj => (hM.out.alloc X) 2 _ rfl; have ahM3 := fun X : Obj => (hM.out.alloc X) 3 _ rfl; have ahM4 := fun X : Obj => (hM.out.alloc X) 4 _ rfl; have ahM5 := fun X : Obj => (hM.out.alloc X) 5 _ rfl; have ahM6 := fun X : Obj => (hM.out.alloc X) 6 _ rfl; have ahM7 := fun X : Obj => (hM.out.alloc X) 7 _ rfl; have ahM8 := fun X : Obj => (hM.out.alloc X) 8 _ rfl)
    | (go_at_call 12; have hb0 := below_alloc HB.out (.cells #[.int .i64 p.f0, .int .i64 p.f1, .int .i64 p.f2, .int .i64 p.f3, .int .i64 p.f4, .slice A5 p.f5.length c5, .slice A6 p.f6.length c6, .int .i64 p.f7.f0, .int .i64 p.f7.f1, .int .i64 p.f8] 40); have HB := Aside0.mk hb0; refine (why_c p A5 c5 A6 c6 m g.f2 g.f1 t _ (HPR.out.below (below_alloc (Below.refl _ _) _))).mono ?_; rintro e w5 ⟨rfl, hb⟩; rw [← HX.out.2.2.2.2]; have HB := Aside0.mk (HB.out.trans (hb.mono HB.out.size)); clear hb hb0))
  all_goals
    go_ret
    refine ⟨(congrArg (fun x => Ending.returned (Value.int .i64 x)) ?_ : Ending.returned (Value.int .i64 _) = Ending.returned (Value.int .i64 r)), by first | exact HB.out | exact below_alloc HB.out _ | exact below_alloc (below_alloc (Below.refl _ _) _) _⟩
    rw [HR.out]
    unfold decideF
    rw [← HX.out.1, ← HX.out.2.2.1, ← HX.out.2.2.2.1, ← HX.out.2.2.2.2]
    have hon := HX.out.2.1
    clear HX hP hM HB HWZ HR HG HL hu hu2 hu3 hu4
    (try simp_all)
    (try (intro _; omega))
end Go.Proofs.Ytbfflokkdahjjaa.PV
