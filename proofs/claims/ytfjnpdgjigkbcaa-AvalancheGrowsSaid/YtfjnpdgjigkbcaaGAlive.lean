/- skiarealaw50.alive answers true: the examples of the chapter hold. No condition. -/
import Derived.Test.YtfjnpdgjigkbcaaPAllx1
import Derived.Test.YtfjnpdgjigkbcaaPAllx10
import Derived.Test.YtfjnpdgjigkbcaaPAllx13
import Derived.Test.YtfjnpdgjigkbcaaPAllx17
import Derived.Test.YtfjnpdgjigkbcaaPAllx21
import Derived.Test.YtfjnpdgjigkbcaaPAllx23
import Derived.Test.YtfjnpdgjigkbcaaPAllx5
import Derived.Test.YtfjnpdgjigkbcaaGZones
namespace Go.Proofs.Ytfjnpdgjigkbcaa.PAll
open Go.RowKit Go.Proofs.YtfjnpdgjigkbcaaW.PrintWords Go.Proofs.YtfjnpdgjigkbcaaW.PrintLast Go.Proofs.YtfjnpdgjigkbcaaW.PrintMore
set_option linter.unusedVariables false
set_option linter.unusedSimpArgs false

def skiarealaw50_alive.f : Option (Bool) := some true

def lS : List S34 := [⟨7, [2, 5], [3], 100, 50, -1⟩]
def lA : List S34 := [⟨7, [2, 5], [3], 100, 72, -1⟩]
def lB : List S34 := [⟨7, [2, 5], [3], 100, 70, -1⟩]
def lC : List S34 := [⟨7, [2, 5], [3], 100, 0, 900⟩]
theorem ex1 : skiarealaw50_seven.f = some lS := by kernel_rfl
theorem ex2 : avalanche_Grow.f 20 lS 20 12999 = some ([⟨7, [2, 5], [3], 100, 72, -1⟩], 0) := by kernel_rfl
theorem ex3 : avalanche_Grow.f 20 lS 20 10000 = some ([⟨7, [2, 5], [3], 100, 70, -1⟩], 0) := by kernel_rfl
theorem ex4 : avalanche_Control.f lS 7 900 = some (lC, 0) := by kernel_rfl
theorem ex5 : avalanche_Control.f lC 7 899 = some ([], 11) := by kernel_rfl
theorem ex6 : avalanche_Right.f 20 lS = some 0 := by kernel_rfl
theorem ex7 : avalanche_Level.f 20 7 [2, 5] [3] 100 50 (-1) [1, 3] = some 3 := by kernel_rfl
theorem ex8 : avalanche_Unstable.f 20 7 [2, 5] [3] 100 50 (-1) [1, 3] = some true := by kernel_rfl
theorem ex9 : avalanche_Unstable.f 20 7 [2, 5] [3] 100 50 (-1) [1, 2] = some false := by kernel_rfl
theorem ex10 : avalanche_Unstable.f 20 7 [2, 5] [3] 100 50 (-1) [1, 2, 3, 4, 5] = some true := by kernel_rfl
theorem ex11 : avalanche_Unstable.f 20 7 [2, 5] [3] 100 0 900 [0, 4] = some false := by kernel_rfl
theorem ex12 : avalanche_Zones.f lS [1, 3] = some [2, 5] := by kernel_rfl
theorem ex13 : skiarearef50_Same.f 20 [2, 5] [2, 5] = some true := by kernel_rfl
theorem ex14 : avalanche_Lifts.f lS [1, 3] = some [3] := by kernel_rfl
theorem ex15 : skiarearef50_Same.f 20 [3] [3] = some true := by kernel_rfl
theorem ex16 : avalanche_Zones.f lS [] = some [] := by kernel_rfl

theorem litInts_C (W : World) (l : List Int) (hl : l.length ≤ 1000) : Kd.C (Kd.int .i64) (W.alloc (.cells (l.map (Value.int .i64)).toArray 3)) (some ⟨W.heap.size, 0, none⟩) l.length l := by
  refine Kd.C_of_reads (enc := Value.int .i64) (d := (0 : Int)) (h1 := fun _ => rfl) ⟨rfl, by omega, fun h0 => ⟨_, rfl, fun j hj => ?_⟩⟩
  rw [Addr.add_lit, blk_cell (blk_new W (.cells (l.map (Value.int .i64)).toArray 3)) (0 + j), Nat.zero_add]
  simp [List.getD_eq_getElem?_getD, hj]
/-- A row of one path. -/
def One (W : World) (g c : Nat) (l : List S34) : Prop := Kd.C k34 W (some ⟨g, 0, none⟩) 1 l ∧ 1 ≤ c
theorem One.below {W W' : World} {g c : Nat} {l : List S34} (h : One W g c l) (hb : Below W.heap.size W W') : One W' g c l := ⟨Kd.C_below h.1 hb, h.2⟩
theorem oneRow_of {W : World} {base : Nat} {v : Value} {x : S34} (h : Kd.S k34 34 W base (fun _ => True) v [x]) : ∃ g c, v = .slice (some ⟨g, 0, none⟩) 1 c ∧ One W g c [x] := by
  obtain ⟨g, c, rfl, _, _, _⟩ := Kd.S_form h (by simp)
  have h2 := Kd.S_reads' h
  exact ⟨g, c, rfl, h2.2.2, h2.2.1⟩
/-- The cells of a row of one path: the numbers, and the two slices. -/
structure Cells (W : World) (g : Nat) (A1 : Option Addr) (c1 : Nat) (A2 : Option Addr) (c2 : Nat) (u v : Int) : Prop where
  h0 : W.cell? ⟨g, 0, none⟩ = some (.int .i64 7)
  h1 : W.cell? ⟨g, 1, none⟩ = some (.slice A1 2 c1)
  h2 : W.cell? ⟨g, 2, none⟩ = some (.slice A2 1 c2)
  h3 : W.cell? ⟨g, 3, none⟩ = some (.int .i64 100)
  h4 : W.cell? ⟨g, 4, none⟩ = some (.int .i64 u)
  h5 : W.cell? ⟨g, 5, none⟩ = some (.int .i64 v)
  l1 : 2 ≤ c1
  r1 : Kd.C (Kd.int .i64) W A1 2 [2, 5]
  l2 : 1 ≤ c2
  r2 : Kd.C (Kd.int .i64) W A2 1 [3]
theorem Cells.below {W W' : World} {g : Nat} {A1 : Option Addr} {c1 : Nat} {A2 : Option Addr} {c2 : Nat} {u v : Int} (h : Cells W g A1 c1 A2 c2 u v) (hb : Below W.heap.size W W') : Cells W' g A1 c1 A2 c2 u v :=
  ⟨pw_cell_below hb h.h0, pw_cell_below hb h.h1, pw_cell_below hb h.h2, pw_cell_below hb h.h3, pw_cell_below hb h.h4, pw_cell_below hb h.h5, h.l1, Kd.C_below h.r1 hb, h.l2, Kd.C_below h.r2 hb⟩
theorem oneRow_cells {W : World} {g c : Nat} {u v : Int} (h : One W g c [⟨7, [2, 5], [3], 100, u, v⟩]) : ∃ A1 c1 A2 c2, Cells W g A1 c1 A2 c2 u v := by
  obtain ⟨ad, A1, c1, A2, c2, e, h0, h1, h2, h3, h4, h5, l1, r1, l2, r2⟩ := at_T34 h.1 0 (by omega) (by simp)
  injection e with e
  subst e
  exact ⟨A1, c1, A2, c2, h0, h1, h2, h3, h4, h5, l1, r1, l2, r2⟩
theorem c_seven (W : World) : Calls Try.prog 32 #[] W fun e w' => ∃ g c, e = .returned (.slice (some ⟨g, 0, none⟩) 1 c) ∧ One w' g c lS ∧ Below W.heap.size W w' := by
  refine (skiarealaw50_seven.calls lS W ex1).mono ?_
  rintro e w1 ⟨v, rfl, hS, hb⟩
  obtain ⟨g, c, rfl, _, _, _⟩ := Kd.N_form hS (by decide)
  have h2 := Kd.N_reads' hS
  exact ⟨g, c, rfl, ⟨h2.2.2, h2.2.1⟩, hb⟩
theorem c_grow (gust u : Int) (hx : avalanche_Grow.f 20 lS 20 gust = some ([⟨7, [2, 5], [3], 100, u, -1⟩], 0)) (g c : Nat) (W : World) (h : One W g c lS) : Calls Try.prog 15 #[.slice (some ⟨g, 0, none⟩) 1 c, .int .i64 20, .int .i64 gust] W fun e w' => ∃ g' c', e = .returned (.tuple #[.slice (some ⟨g', 0, none⟩) 1 c', .int .i64 0]) ∧ One w' g' c' [⟨7, [2, 5], [3], 100, u, -1⟩] ∧ Below W.heap.size W w' := by
  refine (avalanche_Grow.calls 20 _ _ lS 20 gust _ 0 W h.1 h.2 hx).mono ?_
  rintro e w1 ⟨v, rfl, hS, hb⟩
  obtain ⟨g', c', rfl, h2⟩ := oneRow_of hS
  exact ⟨g', c', rfl, h2, hb⟩
theorem c_ctrl (g c : Nat) (W : World) (h : One W g c lS) : Calls Try.prog 18 #[.slice (some ⟨g, 0, none⟩) 1 c, .int .i64 7, .int .i64 900] W fun e w' => ∃ g' c', e = .returned (.tuple #[.slice (some ⟨g', 0, none⟩) 1 c', .int .i64 0]) ∧ One w' g' c' lC ∧ Below W.heap.size W w' := by
  refine (avalanche_Control.calls _ _ lS 7 900 lC 0 W h.1 h.2 ex4).mono ?_
  rintro e w1 ⟨v, rfl, hS, hb⟩
  obtain ⟨g', c', rfl, h2⟩ := oneRow_of hS
  exact ⟨g', c', rfl, h2, hb⟩
theorem c_ctrl2 (g c : Nat) (W : World) (h : One W g c lC) : Calls Try.prog 18 #[.slice (some ⟨g, 0, none⟩) 1 c, .int .i64 7, .int .i64 899] W fun e w' => ∃ A c', e = .returned (.tuple #[.slice A 0 c', .int .i64 11]) ∧ Below W.heap.size W w' := by
  refine (avalanche_Control.calls _ _ lC 7 899 [] 11 W h.1 h.2 ex5).mono ?_
  rintro e w1 ⟨v, rfl, hS, hb⟩
  obtain ⟨A, c', rfl⟩ := Kd.S_slice hS
  exact ⟨A, c', rfl, hb⟩
theorem c_right (g c : Nat) (W : World) (h : One W g c lS) : Calls Try.prog 12 #[.slice (some ⟨g, 0, none⟩) 1 c] W fun e w' => e = .returned (.int .i64 0) ∧ Below W.heap.size W w' :=
  avalanche_Right.calls 20 _ _ lS 0 W h.1 h.2 ex6
theorem c_level (g : Nat) (A1 : Option Addr) (c1 : Nat) (A2 : Option Addr) (c2 : Nat) (W : World) (h : Cells W g A1 c1 A2 c2 50 (-1)) : Calls Try.prog 20 #[.agg #[.int .i64 7, .slice A1 2 c1, .slice A2 1 c2, .int .i64 100, .int .i64 50, .int .i64 (-1)], .slice (some ⟨W.heap.size, 0, none⟩) 2 2] (W.alloc (.cells #[.int .i64 1, .int .i64 3] 3)) fun e w' => e = .returned (.int .i64 3) ∧ Below W.heap.size W w' := by
  have h' := h.below (below_alloc (Below.refl _ _) (.cells #[.int .i64 1, .int .i64 3] 3))
  refine (avalanche_Level.calls 20 7 A1 c1 [2, 5] A2 c2 [3] 100 50 (-1) _ _ [1, 3] 3 _ h'.r1 h'.l1 h'.r2 h'.l2 (litInts_C W [1, 3] (by decide)) (by decide) ex7).mono ?_
  rintro e w' ⟨rfl, hb⟩
  exact ⟨rfl, below_step (below_alloc (Below.refl _ _) _) hb⟩
theorem c_unst (u v : Int) (b : Bool) (lit : List Int) (n : Nat) (hn : lit.length = n) (hl : n ≤ 1000) (o : Obj) (ho : o = .cells (lit.map (Value.int .i64)).toArray 3) (hx : avalanche_Unstable.f 20 7 [2, 5] [3] 100 u v lit = some b) (g : Nat) (A1 : Option Addr) (c1 : Nat) (A2 : Option Addr) (c2 : Nat) (W : World) (h : Cells W g A1 c1 A2 c2 u v) : Calls Try.prog 22 #[.agg #[.int .i64 7, .slice A1 2 c1, .slice A2 1 c2, .int .i64 100, .int .i64 u, .int .i64 v], .slice (some ⟨W.heap.size, 0, none⟩) n n] (W.alloc o) fun e w' => e = .returned (.bool b) ∧ Below W.heap.size W w' := by
  subst hn
  subst ho
  have h' := h.below (below_alloc (Below.refl _ _) (.cells (lit.map (Value.int .i64)).toArray 3))
  refine (avalanche_Unstable.calls 20 7 A1 c1 [2, 5] A2 c2 [3] 100 u v _ _ lit b _ h'.r1 h'.l1 h'.r2 h'.l2 (litInts_C W lit hl) (Nat.le_refl _) hx).mono ?_
  rintro e w' ⟨rfl, hb⟩
  exact ⟨rfl, below_step (below_alloc (Below.refl _ _) _) hb⟩
theorem c_unst1 (g : Nat) (A1 : Option Addr) (c1 : Nat) (A2 : Option Addr) (c2 : Nat) (W : World) (h : Cells W g A1 c1 A2 c2 50 (-1)) : Calls Try.prog 22 #[.agg #[.int .i64 7, .slice A1 2 c1, .slice A2 1 c2, .int .i64 100, .int .i64 50, .int .i64 (-1)], .slice (some ⟨W.heap.size, 0, none⟩) 2 2] (W.alloc (.cells #[.int .i64 1, .int .i64 3] 3)) fun e w' => e = .returned (.bool true) ∧ Below W.heap.size W w' :=
  c_unst 50 (-1) true [1, 3] 2 rfl (by decide) _ rfl ex8 g A1 c1 A2 c2 W h
theorem c_unst2 (g : Nat) (A1 : Option Addr) (c1 : Nat) (A2 : Option Addr) (c2 : Nat) (W : World) (h : Cells W g A1 c1 A2 c2 50 (-1)) : Calls Try.prog 22 #[.agg #[.int .i64 7, .slice A1 2 c1, .slice A2 1 c2, .int .i64 100, .int .i64 50, .int .i64 (-1)], .slice (some ⟨W.heap.size, 0, none⟩) 2 2] (W.alloc (.cells #[.int .i64 1, .int .i64 2] 3)) fun e w' => e = .returned (.bool false) ∧ Below W.heap.size W w' :=
  c_unst 50 (-1) false [1, 2] 2 rfl (by decide) _ rfl ex9 g A1 c1 A2 c2 W h
theorem c_unst3 (g : Nat) (A1 : Option Addr) (c1 : Nat) (A2 : Option Addr) (c2 : Nat) (W : World) (h : Cells W g A1 c1 A2 c2 50 (-1)) : Calls Try.prog 22 #[.agg #[.int .i64 7, .slice A1 2 c1, .slice A2 1 c2, .int .i64 100, .int .i64 50, .int .i64 (-1)], .slice (some ⟨W.heap.size, 0, none⟩) 5 5] (W.alloc (.cells #[.int .i64 1, .int .i64 2, .int .i64 3, .int .i64 4, .int .i64 5] 3)) fun e w' => e = .returned (.bool true) ∧ Below W.heap.size W w' :=
  c_unst 50 (-1) true [1, 2, 3, 4, 5] 5 rfl (by decide) _ rfl ex10 g A1 c1 A2 c2 W h
theorem c_unst4 (g : Nat) (A1 : Option Addr) (c1 : Nat) (A2 : Option Addr) (c2 : Nat) (W : World) (h : Cells W g A1 c1 A2 c2 0 900) : Calls Try.prog 22 #[.agg #[.int .i64 7, .slice A1 2 c1, .slice A2 1 c2, .int .i64 100, .int .i64 0, .int .i64 900], .slice (some ⟨W.heap.size, 0, none⟩) 2 2] (W.alloc (.cells #[.int .i64 0, .int .i64 4] 3)) fun e w' => e = .returned (.bool false) ∧ Below W.heap.size W w' :=
  c_unst 0 900 false [0, 4] 2 rfl (by decide) _ rfl ex11 g A1 c1 A2 c2 W h
/-- A row of whole numbers that is read. -/
def Ints (W : World) (A : Option Addr) (c : Nat) (l : List Int) : Prop := Kd.C (Kd.int .i64) W A l.length l ∧ l.length ≤ c
theorem c_zones (g c : Nat) (W : World) (h : One W g c lS) : Calls Try.prog 25 #[.slice (some ⟨g, 0, none⟩) 1 c, .slice (some ⟨W.heap.size, 0, none⟩) 2 2] (W.alloc (.cells #[.int .i64 1, .int .i64 3] 3)) fun e w' => ∃ A c', e = .returned (.slice A 2 c') ∧ Ints w' A c' [2, 5] ∧ Below W.heap.size W w' := by
  have h' := h.below (below_alloc (Below.refl _ _) (.cells #[.int .i64 1, .int .i64 3] 3))
  refine (avalanche_Zones.calls _ _ lS _ _ [1, 3] [2, 5] _ h'.1 h'.2 (litInts_C W [1, 3] (by decide)) (by decide) ex12).mono ?_
  rintro e w' ⟨v, rfl, hR, hb⟩
  obtain ⟨A, c', rfl⟩ := Kd.R_slice hR
  exact ⟨A, c', rfl, ⟨(Kd.R_reads' hR).2.2, (Kd.R_reads' hR).2.1⟩, below_step (below_alloc (Below.refl _ _) _) hb⟩
theorem c_lifts (g c : Nat) (W : World) (h : One W g c lS) : Calls Try.prog 27 #[.slice (some ⟨g, 0, none⟩) 1 c, .slice (some ⟨W.heap.size, 0, none⟩) 2 2] (W.alloc (.cells #[.int .i64 1, .int .i64 3] 3)) fun e w' => ∃ A c', e = .returned (.slice A 1 c') ∧ Ints w' A c' [3] ∧ Below W.heap.size W w' := by
  have h' := h.below (below_alloc (Below.refl _ _) (.cells #[.int .i64 1, .int .i64 3] 3))
  refine (avalanche_Lifts.calls _ _ lS _ _ [1, 3] [3] _ h'.1 h'.2 (litInts_C W [1, 3] (by decide)) (by decide) ex14).mono ?_
  rintro e w' ⟨v, rfl, hR, hb⟩
  obtain ⟨A, c', rfl⟩ := Kd.R_slice hR
  exact ⟨A, c', rfl, ⟨(Kd.R_reads' hR).2.2, (Kd.R_reads' hR).2.1⟩, below_step (below_alloc (Below.refl _ _) _) hb⟩
theorem c_zones0 (g c : Nat) (W : World) (h : One W g c lS) : Calls Try.prog 25 #[.slice (some ⟨g, 0, none⟩) 1 c, .slice none 0 0] W fun e w' => ∃ A c', e = .returned (.slice A 0 c') ∧ Below W.heap.size W w' := by
  refine (avalanche_Zones.calls _ _ lS _ _ [] [] _ h.1 h.2 (Kd.C_nil _ _) (by decide) ex16).mono ?_
  rintro e w' ⟨v, rfl, hR, hb⟩
  obtain ⟨A, c', rfl⟩ := Kd.R_slice hR
  exact ⟨A, c', rfl, hb⟩
theorem c_same1 (A : Option Addr) (c : Nat) (W : World) (h : Ints W A c [2, 5]) : Calls Try.prog 24 #[.slice A 2 c, .slice (some ⟨W.heap.size, 0, none⟩) 2 2] (W.alloc (.cells #[.int .i64 2, .int .i64 5] 3)) fun e w' => e = .returned (.bool true) ∧ Below W.heap.size W w' := by
  refine (skiarearef50_Same.calls 20 _ _ [2, 5] _ _ [2, 5] true _ (Kd.C_alloc h.1 _) h.2 (litInts_C W [2, 5] (by decide)) (by decide) ex13).mono ?_
  rintro e w' ⟨rfl, ⟨nd, rfl⟩⟩
  exact ⟨rfl, pw_below_drewN (below_alloc (Below.refl _ _) _) _⟩
theorem c_same2 (A : Option Addr) (c : Nat) (W : World) (h : Ints W A c [3]) : Calls Try.prog 24 #[.slice A 1 c, .slice (some ⟨W.heap.size, 0, none⟩) 1 1] (W.alloc (.cells #[.int .i64 3] 3)) fun e w' => e = .returned (.bool true) ∧ Below W.heap.size W w' := by
  refine (skiarearef50_Same.calls 20 _ _ [3] _ _ [3] true _ (Kd.C_alloc h.1 _) h.2 (litInts_C W [3] (by decide)) (by decide) ex15).mono ?_
  rintro e w' ⟨rfl, ⟨nd, rfl⟩⟩
  exact ⟨rfl, pw_below_drewN (below_alloc (Below.refl _ _) _) _⟩

set_option maxRecDepth 100000 in
set_option maxHeartbeats 4000000 in
theorem skiarealaw50_alive.calls (r : Bool) (w : World) (h : skiarealaw50_alive.f = some r) :
    Calls Try.prog 10 #[] w fun e w' => e = .returned (.bool r) ∧ Below w.heap.size w w' := by
  unfold skiarealaw50_alive.f at h
  injection h with h
  subst h
  have hu34 := Try.underlying34
  go_enter Try.func10, Try.ntmps10
  go_wp2_with (first
    | (go_at_call 32; (with_reducible refine (c_seven _).mono ?_); rintro e w' ⟨gl, cl, rfl, hO, hb⟩; have Ol := Aside0.mk hO; clear hO; have HB := Aside0.mk hb; clear hb)
    | (go_at_call 15; (with_reducible refine (c_grow 12999 72 ex2 _ _ _ Ol.out).mono ?_); rintro e w' ⟨ga, ca, rfl, hO, hb⟩; have n_ := Aside0.mk (Ol.out.below hb); clear Ol; have Ol := n_; clear n_; have Oa := Aside0.mk hO; clear hO; have n_ := Aside0.mk (below_step HB.out hb); clear HB; have HB := n_; clear n_; clear hb)
    | (go_at_call 15; (with_reducible refine (c_grow 10000 70 ex3 _ _ _ Ol.out).mono ?_); rintro e w' ⟨gb, cb, rfl, hO, hb⟩; have n_ := Aside0.mk (Ol.out.below hb); clear Ol; have Ol := n_; clear n_; have n_ := Aside0.mk (Oa.out.below hb); clear Oa; have Oa := n_; clear n_; have Ob := Aside0.mk hO; clear hO; have n_ := Aside0.mk (below_step HB.out hb); clear HB; have HB := n_; clear n_; clear hb)
    | (go_at_call 18; (with_reducible refine (c_ctrl _ _ _ Ol.out).mono ?_); rintro e w' ⟨gc, cc, rfl, hO, hb⟩; have n_ := Aside0.mk (Ol.out.below hb); clear Ol; have Ol := n_; clear n_; have n_ := Aside0.mk (Oa.out.below hb); clear Oa; have Oa := n_; clear n_; have n_ := Aside0.mk (Ob.out.below hb); clear Ob; have Ob := n_; clear n_; have Oc := Aside0.mk hO; clear hO; have n_ := Aside0.mk (below_step HB.out hb); clear HB; have HB := n_; clear n_; clear hb)
    | (go_at_call 18; (with_reducible refine (c_ctrl2 _ _ _ Oc.out).mono ?_); rintro e w' ⟨Ad, cd, rfl, hb⟩; have n_ := Aside0.mk (Ol.out.below hb); clear Ol; have Ol := n_; clear n_; have n_ := Aside0.mk (Oa.out.below hb); clear Oa; have Oa := n_; clear n_; have n_ := Aside0.mk (Ob.out.below hb); clear Ob; have Ob := n_; clear n_; have n_ := Aside0.mk (Oc.out.below hb); clear Oc; have Oc := n_; clear n_; have n_ := Aside0.mk (below_step HB.out hb); clear HB; have HB := n_; clear n_; clear hb; obtain ⟨Al1, ml1, Al2, ml2, Kl⟩ := oneRow_cells Ol.out; have Kl := Aside0.mk Kl; obtain ⟨Aa1, ma1, Aa2, ma2, Ka⟩ := oneRow_cells Oa.out; have Ka := Aside0.mk Ka; obtain ⟨Ab1, mb1, Ab2, mb2, Kb⟩ := oneRow_cells Ob.out; have Kb := Aside0.mk Kb; obtain ⟨Ac1, mc1, Ac2, mc2, Kc⟩ := oneRow_cells Oc.out; have Kc := Aside0.mk Kc; have xl0 := Kl.out.h0; have xl1 := Kl.out.h1; have xl2 := Kl.out.h2; have xl3 := Kl.out.h3; have xl4 := Kl.out.h4; have xl5 := Kl.out.h5; have xa0 := Ka.out.h0; have xa1 := Ka.out.h1; have xa2 := Ka.out.h2; have xa3 := Ka.out.h3; have xa4 := Ka.out.h4; have xa5 := Ka.out.h5; have xb0 := Kb.out.h0; have xb1 := Kb.out.h1; have xb2 := Kb.out.h2; have xb3 := Kb.out.h3; have xb4 := Kb.out.h4; have xb5 := Kb.out.h5; have xc0 := Kc.out.h0; have xc1 := Kc.out.h1; have xc2 := Kc.out.h2; have xc3 := Kc.out.h3; have xc4 := Kc.out.h4; have xc5 := Kc.out.h5)
    | (go_at_call 12; (with_reducible refine (c_right _ _ _ Ol.out).mono ?_); rintro e w' ⟨rfl, hb⟩; clear xl0 xl1 xl2 xl3 xl4 xl5 xa0 xa1 xa2 xa3 xa4 xa5 xb0 xb1 xb2 xb3 xb4 xb5 xc0 xc1 xc2 xc3 xc4 xc5; have n_ := Aside0.mk (Ol.out.below hb); clear Ol; have Ol := n_; clear n_; have n_ := Aside0.mk (Kl.out.below hb); clear Kl; have Kl := n_; clear n_; have n_ := Aside0.mk (Ka.out.below hb); clear Ka; have Ka := n_; clear n_; have n_ := Aside0.mk (Kb.out.below hb); clear Kb; have Kb := n_; clear n_; have n_ := Aside0.mk (Kc.out.below hb); clear Kc; have Kc := n_; clear n_; have n_ := Aside0.mk (below_step HB.out hb); clear HB; have HB := n_; clear n_; clear hb; have xl0 := Kl.out.h0; have xl1 := Kl.out.h1; have xl2 := Kl.out.h2; have xl3 := Kl.out.h3; have xl4 := Kl.out.h4; have xl5 := Kl.out.h5; have xa0 := Ka.out.h0; have xa1 := Ka.out.h1; have xa2 := Ka.out.h2; have xa3 := Ka.out.h3; have xa4 := Ka.out.h4; have xa5 := Ka.out.h5; have xb0 := Kb.out.h0; have xb1 := Kb.out.h1; have xb2 := Kb.out.h2; have xb3 := Kb.out.h3; have xb4 := Kb.out.h4; have xb5 := Kb.out.h5; have xc0 := Kc.out.h0; have xc1 := Kc.out.h1; have xc2 := Kc.out.h2; have xc3 := Kc.out.h3; have xc4 := Kc.out.h4; have xc5 := Kc.out.h5)
    | (go_at_call 20; (with_reducible refine (c_level _ _ _ _ _ _ Kl.out).mono ?_); rintro e w' ⟨rfl, hb⟩; clear xl0 xl1 xl2 xl3 xl4 xl5 xa0 xa1 xa2 xa3 xa4 xa5 xb0 xb1 xb2 xb3 xb4 xb5 xc0 xc1 xc2 xc3 xc4 xc5; have n_ := Aside0.mk (Ol.out.below hb); clear Ol; have Ol := n_; clear n_; have n_ := Aside0.mk (Kl.out.below hb); clear Kl; have Kl := n_; clear n_; have n_ := Aside0.mk (Ka.out.below hb); clear Ka; have Ka := n_; clear n_; have n_ := Aside0.mk (Kb.out.below hb); clear Kb; have Kb := n_; clear n_; have n_ := Aside0.mk (Kc.out.below hb); clear Kc; have Kc := n_; clear n_; have n_ := Aside0.mk (below_step HB.out hb); clear HB; have HB := n_; clear n_; clear hb; have xl0 := Kl.out.h0; have xl1 := Kl.out.h1; have xl2 := Kl.out.h2; have xl3 := Kl.out.h3; have xl4 := Kl.out.h4; have xl5 := Kl.out.h5; have xa0 := Ka.out.h0; have xa1 := Ka.out.h1; have xa2 := Ka.out.h2; have xa3 := Ka.out.h3; have xa4 := Ka.out.h4; have xa5 := Ka.out.h5; have xb0 := Kb.out.h0; have xb1 := Kb.out.h1; have xb2 := Kb.out.h2; have xb3 := Kb.out.h3; have xb4 := Kb.out.h4; have xb5 := Kb.out.h5; have xc0 := Kc.out.h0; have xc1 := Kc.out.h1; have xc2 := Kc.out.h2; have xc3 := Kc.out.h3; have xc4 := Kc.out.h4; have xc5 := Kc.out.h5)
    | (go_at_call 22; (with_reducible refine (c_unst1 _ _ _ _ _ _ Kl.out).mono ?_); rintro e w' ⟨rfl, hb⟩; clear xl0 xl1 xl2 xl3 xl4 xl5 xa0 xa1 xa2 xa3 xa4 xa5 xb0 xb1 xb2 xb3 xb4 xb5 xc0 xc1 xc2 xc3 xc4 xc5; have n_ := Aside0.mk (Ol.out.below hb); clear Ol; have Ol := n_; clear n_; have n_ := Aside0.mk (Kl.out.below hb); clear Kl; have Kl := n_; clear n_; have n_ := Aside0.mk (Ka.out.below hb); clear Ka; have Ka := n_; clear n_; have n_ := Aside0.mk (Kb.out.below hb); clear Kb; have Kb := n_; clear n_; have n_ := Aside0.mk (Kc.out.below hb); clear Kc; have Kc := n_; clear n_; have n_ := Aside0.mk (below_step HB.out hb); clear HB; have HB := n_; clear n_; clear hb; have xl0 := Kl.out.h0; have xl1 := Kl.out.h1; have xl2 := Kl.out.h2; have xl3 := Kl.out.h3; have xl4 := Kl.out.h4; have xl5 := Kl.out.h5; have xa0 := Ka.out.h0; have xa1 := Ka.out.h1; have xa2 := Ka.out.h2; have xa3 := Ka.out.h3; have xa4 := Ka.out.h4; have xa5 := Ka.out.h5; have xb0 := Kb.out.h0; have xb1 := Kb.out.h1; have xb2 := Kb.out.h2; have xb3 := Kb.out.h3; have xb4 := Kb.out.h4; have xb5 := Kb.out.h5; have xc0 := Kc.out.h0; have xc1 := Kc.out.h1; have xc2 := Kc.out.h2; have xc3 := Kc.out.h3; have xc4 := Kc.out.h4; have xc5 := Kc.out.h5)
    | (go_at_call 22; (with_reducible refine (c_unst2 _ _ _ _ _ _ Kl.out).mono ?_); rintro e w' ⟨rfl, hb⟩; clear xl0 xl1 xl2 xl3 xl4 xl5 xa0 xa1 xa2 xa3 xa4 xa5 xb0 xb1 xb2 xb3 xb4 xb5 xc0 xc1 xc2 xc3 xc4 xc5; have n_ := Aside0.mk (Ol.out.below hb); clear Ol; have Ol := n_; clear n_; have n_ := Aside0.mk (Kl.out.below hb); clear Kl; have Kl := n_; clear n_; have n_ := Aside0.mk (Ka.out.below hb); clear Ka; have Ka := n_; clear n_; have n_ := Aside0.mk (Kb.out.below hb); clear Kb; have Kb := n_; clear n_; have n_ := Aside0.mk (Kc.out.below hb); clear Kc; have Kc := n_; clear n_; have n_ := Aside0.mk (below_step HB.out hb); clear HB; have HB := n_; clear n_; clear hb; have xl0 := Kl.out.h0; have xl1 := Kl.out.h1; have xl2 := Kl.out.h2; have xl3 := Kl.out.h3; have xl4 := Kl.out.h4; have xl5 := Kl.out.h5; have xa0 := Ka.out.h0; have xa1 := Ka.out.h1; have xa2 := Ka.out.h2; have xa3 := Ka.out.h3; have xa4 := Ka.out.h4; have xa5 := Ka.out.h5; have xb0 := Kb.out.h0; have xb1 := Kb.out.h1; have xb2 := Kb.out.h2; have xb3 := Kb.out.h3; have xb4 := Kb.out.h4; have xb5 := Kb.out.h5; have xc0 := Kc.out.h0; have xc1 := Kc.out.h1; have xc2 := Kc.out.h2; have xc3 := Kc.out.h3; have xc4 := Kc.out.h4; have xc5 := Kc.out.h5)
    | (go_at_call 22; (with_reducible refine (c_unst3 _ _ _ _ _ _ Kl.out).mono ?_); rintro e w' ⟨rfl, hb⟩; clear xl0 xl1 xl2 xl3 xl4 xl5 xa0 xa1 xa2 xa3 xa4 xa5 xb0 xb1 xb2 xb3 xb4 xb5 xc0 xc1 xc2 xc3 xc4 xc5; have n_ := Aside0.mk (Ol.out.below hb); clear Ol; have Ol := n_; clear n_; have n_ := Aside0.mk (Kl.out.below hb); clear Kl; have Kl := n_; clear n_; have n_ := Aside0.mk (Ka.out.below hb); clear Ka; have Ka := n_; clear n_; have n_ := Aside0.mk (Kb.out.below hb); clear Kb; have Kb := n_; clear n_; have n_ := Aside0.mk (Kc.out.below hb); clear Kc; have Kc := n_; clear n_; have n_ := Aside0.mk (below_step HB.out hb); clear HB; have HB := n_; clear n_; clear hb; have xl0 := Kl.out.h0; have xl1 := Kl.out.h1; have xl2 := Kl.out.h2; have xl3 := Kl.out.h3; have xl4 := Kl.out.h4; have xl5 := Kl.out.h5; have xa0 := Ka.out.h0; have xa1 := Ka.out.h1; have xa2 := Ka.out.h2; have xa3 := Ka.out.h3; have xa4 := Ka.out.h4; have xa5 := Ka.out.h5; have xb0 := Kb.out.h0; have xb1 := Kb.out.h1; have xb2 := Kb.out.h2; have xb3 := Kb.out.h3; have xb4 := Kb.out.h4; have xb5 := Kb.out.h5; have xc0 := Kc.out.h0; have xc1 := Kc.out.h1; have xc2 := Kc.out.h2; have xc3 := Kc.out.h3; have xc4 := Kc.out.h4; have xc5 := Kc.out.h5)
    | (go_at_call 22; (with_reducible refine (c_unst4 _ _ _ _ _ _ Kc.out).mono ?_); rintro e w' ⟨rfl, hb⟩; clear xl0 xl1 xl2 xl3 xl4 xl5 xa0 xa1 xa2 xa3 xa4 xa5 xb0 xb1 xb2 xb3 xb4 xb5 xc0 xc1 xc2 xc3 xc4 xc5; have n_ := Aside0.mk (Ol.out.below hb); clear Ol; have Ol := n_; clear n_; have n_ := Aside0.mk (Kl.out.below hb); clear Kl; have Kl := n_; clear n_; have n_ := Aside0.mk (Ka.out.below hb); clear Ka; have Ka := n_; clear n_; have n_ := Aside0.mk (Kb.out.below hb); clear Kb; have Kb := n_; clear n_; have n_ := Aside0.mk (Kc.out.below hb); clear Kc; have Kc := n_; clear n_; have n_ := Aside0.mk (below_step HB.out hb); clear HB; have HB := n_; clear n_; clear hb; have xl0 := Kl.out.h0; have xl1 := Kl.out.h1; have xl2 := Kl.out.h2; have xl3 := Kl.out.h3; have xl4 := Kl.out.h4; have xl5 := Kl.out.h5; have xa0 := Ka.out.h0; have xa1 := Ka.out.h1; have xa2 := Ka.out.h2; have xa3 := Ka.out.h3; have xa4 := Ka.out.h4; have xa5 := Ka.out.h5; have xb0 := Kb.out.h0; have xb1 := Kb.out.h1; have xb2 := Kb.out.h2; have xb3 := Kb.out.h3; have xb4 := Kb.out.h4; have xb5 := Kb.out.h5; have xc0 := Kc.out.h0; have xc1 := Kc.out.h1; have xc2 := Kc.out.h2; have xc3 := Kc.out.h3; have xc4 := Kc.out.h4; have xc5 := Kc.out.h5)
    | (go_at_call 25; (with_reducible refine (c_zones _ _ _ Ol.out).mono ?_); rintro e w' ⟨Az, cz, rfl, hI, hb⟩; clear xl0 xl1 xl2 xl3 xl4 xl5 xa0 xa1 xa2 xa3 xa4 xa5 xb0 xb1 xb2 xb3 xb4 xb5 xc0 xc1 xc2 xc3 xc4 xc5; have n_ := Aside0.mk (Ol.out.below hb); clear Ol; have Ol := n_; clear n_; have n_ := Aside0.mk (Kl.out.below hb); clear Kl; have Kl := n_; clear n_; have n_ := Aside0.mk (Ka.out.below hb); clear Ka; have Ka := n_; clear n_; have n_ := Aside0.mk (Kb.out.below hb); clear Kb; have Kb := n_; clear n_; have n_ := Aside0.mk (Kc.out.below hb); clear Kc; have Kc := n_; clear n_; have Iz := Aside0.mk hI; clear hI; have n_ := Aside0.mk (below_step HB.out hb); clear HB; have HB := n_; clear n_; clear hb; have xl0 := Kl.out.h0; have xl1 := Kl.out.h1; have xl2 := Kl.out.h2; have xl3 := Kl.out.h3; have xl4 := Kl.out.h4; have xl5 := Kl.out.h5; have xa0 := Ka.out.h0; have xa1 := Ka.out.h1; have xa2 := Ka.out.h2; have xa3 := Ka.out.h3; have xa4 := Ka.out.h4; have xa5 := Ka.out.h5; have xb0 := Kb.out.h0; have xb1 := Kb.out.h1; have xb2 := Kb.out.h2; have xb3 := Kb.out.h3; have xb4 := Kb.out.h4; have xb5 := Kb.out.h5; have xc0 := Kc.out.h0; have xc1 := Kc.out.h1; have xc2 := Kc.out.h2; have xc3 := Kc.out.h3; have xc4 := Kc.out.h4; have xc5 := Kc.out.h5)
    | (go_at_call 24; (with_reducible refine (c_same1 _ _ _ Iz.out).mono ?_); rintro e w' ⟨rfl, hb⟩; clear xl0 xl1 xl2 xl3 xl4 xl5 xa0 xa1 xa2 xa3 xa4 xa5 xb0 xb1 xb2 xb3 xb4 xb5 xc0 xc1 xc2 xc3 xc4 xc5; have n_ := Aside0.mk (Ol.out.below hb); clear Ol; have Ol := n_; clear n_; have n_ := Aside0.mk (Kl.out.below hb); clear Kl; have Kl := n_; clear n_; have n_ := Aside0.mk (Ka.out.below hb); clear Ka; have Ka := n_; clear n_; have n_ := Aside0.mk (Kb.out.below hb); clear Kb; have Kb := n_; clear n_; have n_ := Aside0.mk (Kc.out.below hb); clear Kc; have Kc := n_; clear n_; have n_ := Aside0.mk (below_step HB.out hb); clear HB; have HB := n_; clear n_; clear hb; have xl0 := Kl.out.h0; have xl1 := Kl.out.h1; have xl2 := Kl.out.h2; have xl3 := Kl.out.h3; have xl4 := Kl.out.h4; have xl5 := Kl.out.h5; have xa0 := Ka.out.h0; have xa1 := Ka.out.h1; have xa2 := Ka.out.h2; have xa3 := Ka.out.h3; have xa4 := Ka.out.h4; have xa5 := Ka.out.h5; have xb0 := Kb.out.h0; have xb1 := Kb.out.h1; have xb2 := Kb.out.h2; have xb3 := Kb.out.h3; have xb4 := Kb.out.h4; have xb5 := Kb.out.h5; have xc0 := Kc.out.h0; have xc1 := Kc.out.h1; have xc2 := Kc.out.h2; have xc3 := Kc.out.h3; have xc4 := Kc.out.h4; have xc5 := Kc.out.h5)
    | (go_at_call 27; (with_reducible refine (c_lifts _ _ _ Ol.out).mono ?_); rintro e w' ⟨Ay, cy, rfl, hI, hb⟩; clear xl0 xl1 xl2 xl3 xl4 xl5 xa0 xa1 xa2 xa3 xa4 xa5 xb0 xb1 xb2 xb3 xb4 xb5 xc0 xc1 xc2 xc3 xc4 xc5; have n_ := Aside0.mk (Ol.out.below hb); clear Ol; have Ol := n_; clear n_; have n_ := Aside0.mk (Kl.out.below hb); clear Kl; have Kl := n_; clear n_; have n_ := Aside0.mk (Ka.out.below hb); clear Ka; have Ka := n_; clear n_; have n_ := Aside0.mk (Kb.out.below hb); clear Kb; have Kb := n_; clear n_; have n_ := Aside0.mk (Kc.out.below hb); clear Kc; have Kc := n_; clear n_; have Iy := Aside0.mk hI; clear hI; have n_ := Aside0.mk (below_step HB.out hb); clear HB; have HB := n_; clear n_; clear hb; have xl0 := Kl.out.h0; have xl1 := Kl.out.h1; have xl2 := Kl.out.h2; have xl3 := Kl.out.h3; have xl4 := Kl.out.h4; have xl5 := Kl.out.h5; have xa0 := Ka.out.h0; have xa1 := Ka.out.h1; have xa2 := Ka.out.h2; have xa3 := Ka.out.h3; have xa4 := Ka.out.h4; have xa5 := Ka.out.h5; have xb0 := Kb.out.h0; have xb1 := Kb.out.h1; have xb2 := Kb.out.h2; have xb3 := Kb.out.h3; have xb4 := Kb.out.h4; have xb5 := Kb.out.h5; have xc0 := Kc.out.h0; have xc1 := Kc.out.h1; have xc2 := Kc.out.h2; have xc3 := Kc.out.h3; have xc4 := Kc.out.h4; have xc5 := Kc.out.h5)
    | (go_at_call 24; (with_reducible refine (c_same2 _ _ _ Iy.out).mono ?_); rintro e w' ⟨rfl, hb⟩; clear xl0 xl1 xl2 xl3 xl4 xl5 xa0 xa1 xa2 xa3 xa4 xa5 xb0 xb1 xb2 xb3 xb4 xb5 xc0 xc1 xc2 xc3 xc4 xc5; have n_ := Aside0.mk (Ol.out.below hb); clear Ol; have Ol := n_; clear n_; have n_ := Aside0.mk (Kl.out.below hb); clear Kl; have Kl := n_; clear n_; have n_ := Aside0.mk (Ka.out.below hb); clear Ka; have Ka := n_; clear n_; have n_ := Aside0.mk (Kb.out.below hb); clear Kb; have Kb := n_; clear n_; have n_ := Aside0.mk (Kc.out.below hb); clear Kc; have Kc := n_; clear n_; have n_ := Aside0.mk (below_step HB.out hb); clear HB; have HB := n_; clear n_; clear hb; have xl0 := Kl.out.h0; have xl1 := Kl.out.h1; have xl2 := Kl.out.h2; have xl3 := Kl.out.h3; have xl4 := Kl.out.h4; have xl5 := Kl.out.h5; have xa0 := Ka.out.h0; have xa1 := Ka.out.h1; have xa2 := Ka.out.h2; have xa3 := Ka.out.h3; have xa4 := Ka.out.h4; have xa5 := Ka.out.h5; have xb0 := Kb.out.h0; have xb1 := Kb.out.h1; have xb2 := Kb.out.h2; have xb3 := Kb.out.h3; have xb4 := Kb.out.h4; have xb5 := Kb.out.h5; have xc0 := Kc.out.h0; have xc1 := Kc.out.h1; have xc2 := Kc.out.h2; have xc3 := Kc.out.h3; have xc4 := Kc.out.h4; have xc5 := Kc.out.h5)
    | (go_at_call 25; (with_reducible refine (c_zones0 _ _ _ Ol.out).mono ?_); rintro e w' ⟨Aq, cq, rfl, hb⟩; clear xl0 xl1 xl2 xl3 xl4 xl5 xa0 xa1 xa2 xa3 xa4 xa5 xb0 xb1 xb2 xb3 xb4 xb5 xc0 xc1 xc2 xc3 xc4 xc5; have n_ := Aside0.mk (Ol.out.below hb); clear Ol; have Ol := n_; clear n_; have n_ := Aside0.mk (Kl.out.below hb); clear Kl; have Kl := n_; clear n_; have n_ := Aside0.mk (Ka.out.below hb); clear Ka; have Ka := n_; clear n_; have n_ := Aside0.mk (Kb.out.below hb); clear Kb; have Kb := n_; clear n_; have n_ := Aside0.mk (Kc.out.below hb); clear Kc; have Kc := n_; clear n_; have n_ := Aside0.mk (below_step HB.out hb); clear HB; have HB := n_; clear n_; clear hb; have xl0 := Kl.out.h0; have xl1 := Kl.out.h1; have xl2 := Kl.out.h2; have xl3 := Kl.out.h3; have xl4 := Kl.out.h4; have xl5 := Kl.out.h5; have xa0 := Ka.out.h0; have xa1 := Ka.out.h1; have xa2 := Ka.out.h2; have xa3 := Ka.out.h3; have xa4 := Ka.out.h4; have xa5 := Ka.out.h5; have xb0 := Kb.out.h0; have xb1 := Kb.out.h1; have xb2 := Kb.out.h2; have xb3 := Kb.out.h3; have xb4 := Kb.out.h4; have xb5 := Kb.out.h5; have xc0 := Kc.out.h0; have xc1 := Kc.out.h1; have xc2 := Kc.out.h2; have xc3 := Kc.out.h3; have xc4 := Kc.out.h4; have xc5 := Kc.out.h5))
  go_ret
  exact ⟨rfl, HB.out⟩
end Go.Proofs.Ytfjnpdgjigkbcaa.PAll
