/- skiarealaw27.alive answers true: the examples of the chapter hold. No condition. -/
import Derived.Test.YtedjibjmbgllkaaPAllx11
import Derived.Test.YtedjibjmbgllkaaPAllx13
import Derived.Test.YtedjibjmbgllkaaPAllx15
import Derived.Test.YtedjibjmbgllkaaPAllx16
import Derived.Test.YtedjibjmbgllkaaPAllx2
import Derived.Test.YtedjibjmbgllkaaPAllx5
import Derived.Test.YtedjibjmbgllkaaPAllx8
import Derived.Test.YtedjibjmbgllkaaPAllx0
namespace Go.Proofs.Ytedjibjmbgllkaa.PAll
open Go.RowKit Go.Proofs.YtedjibjmbgllkaaW.PrintWords Go.Proofs.YtedjibjmbgllkaaW.PrintLast Go.Proofs.YtedjibjmbgllkaaW.PrintMore
set_option linter.unusedVariables false
set_option linter.unusedSimpArgs false

def skiarealaw27_alive.f : Option (Bool) := some true

theorem ex1 : revoke_Change.f 20 3 [5, 9] [7, 9] [5] = some (4, [7, 9], 0) := by kernel_rfl
theorem ex2 : revoke_Change.f 20 3 [5, 9] [5] [11] = some (3, [5, 9], 0) := by kernel_rfl
theorem ex3 : revoke_Change.f 20 3 [5, 9] [5] [5, 9] = some (4, [5], 0) := by kernel_rfl
theorem ex4 : revoke_Diff.f 20 3 [5, 9] 6 [2, 9] = some (3, 6, [2], [5]) := by kernel_rfl
theorem ex5 : revoke_Apply.f 20 3 [5, 9] 3 6 [2] [5] = some (6, [2, 9], 0) := by kernel_rfl
theorem ex6 : revoke_Apply.f 20 3 [5, 9] 2 6 [] [] = some (0, [], 14) := by kernel_rfl
theorem ex7 : revoke_Apply.f 20 3 [5, 9] 3 4 [9] [] = some (0, [], 7) := by kernel_rfl
theorem ex8 : revoke_Apply.f 20 3 [5, 9] 3 4 [] [4] = some (0, [], 8) := by kernel_rfl
theorem ex9 : skiarearef27_Same.f 20 4 [7, 9] 4 [7, 9] = some true := by kernel_rfl
theorem ex10 : skiarearef27_Same.f 20 3 [5, 9] 3 [5, 9] = some true := by kernel_rfl
theorem ex11 : skiarearef27_Same.f 20 4 [5] 4 [5] = some true := by kernel_rfl
theorem ex12 : skiarearef27_SameRevision.f 20 3 6 [2] [5] 3 6 [2] [5] = some true := by kernel_rfl
theorem ex13 : skiarearef27_Same.f 20 6 [2, 9] 6 [2, 9] = some true := by kernel_rfl
theorem ex14 : revoke_Has.f 20 3 [5, 9] 9 = some true := by kernel_rfl
theorem ex15 : revoke_Has.f 20 3 [5, 9] 7 = some false := by kernel_rfl
theorem ex16 : revoke_Right.f 20 3 [5, 9] = some 0 := by kernel_rfl

/-- A row of whole numbers that can be read. -/
def Ints (W : World) (A : Option Addr) (c n : Nat) (l : List Int) : Prop := Kd.C (Kd.int .i64) W A n l ∧ n ≤ c
theorem Ints.below {W W' : World} {A : Option Addr} {c n : Nat} {l : List Int} (h : Ints W A c n l) (hb : Below W.heap.size W W') : Ints W' A c n l := ⟨Kd.C_below h.1 hb, h.2⟩
theorem Ints.alloc {W : World} {A : Option Addr} {c n : Nat} {l : List Int} (h : Ints W A c n l) (o : Obj) : Ints (W.alloc o) A c n l := ⟨Kd.C_alloc h.1 o, h.2⟩
theorem Ints.lit (W : World) (l : List Int) (hl : l.length ≤ 1000) (g n : Nat) (hg : g = W.heap.size) (hn : n = l.length) (o : Obj) (ho : o = .cells (l.map (Value.int .i64)).toArray 3) : Ints (W.alloc o) (some ⟨g, 0, none⟩) n n l := by
  subst hg hn ho
  refine ⟨Kd.C_of_reads (enc := Value.int .i64) (d := (0 : Int)) (h1 := fun _ => rfl) ⟨rfl, by omega, fun h0 => ⟨_, rfl, fun j hj => ?_⟩⟩, Nat.le_refl _⟩
  rw [Addr.add_lit, blk_cell (blk_new W (.cells (l.map (Value.int .i64)).toArray 3)) (0 + j), Nat.zero_add]
  simp [List.getD_eq_getElem?_getD, hj]
theorem Ints.nil (W : World) : Ints W none 0 0 [] := ⟨Kd.C_nil _ _, Nat.le_refl _⟩
/-- A list of revoked media in a variable of its own. -/
def RV (W : World) (g : Nat) (v : Int) (n : Nat) (A : Option Addr) (c : Nat) (l : List Int) : Prop :=
  W.cell? ⟨g, 0, none⟩ = some (.int .i64 v) ∧ W.cell? ⟨g, 1, none⟩ = some (.slice A n c) ∧ Ints W A c n l
theorem RV.below {W W' : World} {g : Nat} {v : Int} {n : Nat} {A : Option Addr} {c : Nat} {l : List Int} (h : RV W g v n A c l) (hb : Below W.heap.size W W') : RV W' g v n A c l := ⟨pw_cell_below hb h.1, pw_cell_below hb h.2.1, h.2.2.below hb⟩
theorem RV.alloc {W : World} {g : Nat} {v : Int} {n : Nat} {A : Option Addr} {c : Nat} {l : List Int} (h : RV W g v n A c l) (o : Obj) : RV (W.alloc o) g v n A c l := h.below (below_alloc (Below.refl _ _) o)
theorem RV.drew {W : World} {g : Nat} {v : Int} {n : Nat} {A : Option Addr} {c : Nat} {l : List Int} (h : RV W g v n A c l) : RV W.drew g v n A c l := h.below (below_drew (Below.refl _ _))
theorem RV.new (W : World) (g : Nat) (hg : g = W.heap.size) (v : Int) (n : Nat) (A : Option Addr) (c : Nat) (l : List Int) (h : Ints W A c n l) : RV (W.alloc (.cells #[.int .i64 v, .slice A n c] 24)) g v n A c l := by
  subst hg
  exact ⟨blk_cell (blk_new W _) 0, blk_cell (blk_new W _) 1, h.alloc _⟩
theorem RV.ints {W : World} {g : Nat} {v : Int} {n : Nat} {A : Option Addr} {c : Nat} {l : List Int} (h : RV W g v n A c l) : Ints W A c n l := h.2.2
theorem RV.c0 {W : World} {g : Nat} {v : Int} {n : Nat} {A : Option Addr} {c : Nat} {l : List Int} (h : RV W g v n A c l) : ∀ X : Obj, (W.alloc X).cell? ⟨g, 0, none⟩ = some (.int .i64 v) := fun X => (h.alloc X).1
theorem RV.c1 {W : World} {g : Nat} {v : Int} {n : Nat} {A : Option Addr} {c : Nat} {l : List Int} (h : RV W g v n A c l) : ∀ X : Obj, (W.alloc X).cell? ⟨g, 1, none⟩ = some (.slice A n c) := fun X => (h.alloc X).2.1
/-- A row of one number that is the call's own. -/
def RR (W : World) (v : Value) (l : List Int) : Prop := ∃ base ok, Kd.R (Kd.int .i64) 3 W base ok v l
theorem RR.below {W W' : World} {v : Value} {l : List Int} (h : RR W v l) (hb : Below W.heap.size W W') : RR W' v l := by
  obtain ⟨b, ok, h⟩ := h
  exact ⟨b, ok, Kd.R_below h hb⟩
theorem RR.far {W : World} {v : Value} {l : List Int} {g : Nat} {cs : Array Value} (h : RR W v l) (hx : W.heap[g]? = some (.cells cs 36 (0, 0))) (j : Nat) (u : Value) : RR (W.setCell ⟨g, j, none⟩ u) v l := by
  obtain ⟨b, ok, h⟩ := h
  exact ⟨b, _, Kd.R_far (p := ⟨g, j, none⟩) (Kd.R_types h hx (by decide)) (fun _ hk => hk.2) u⟩
theorem RR.slice {W : World} {v : Value} {l : List Int} (h : RR W v l) : ∃ A c, v = .slice A l.length c := by
  obtain ⟨b, ok, h⟩ := h
  exact Kd.R_slice h
theorem RR.ints {W : World} {A : Option Addr} {n c : Nat} {l : List Int} (h : RR W (.slice A n c) l) (hn : n = l.length) : Ints W A c n l := by
  obtain ⟨b, ok, h⟩ := h
  subst hn
  exact ⟨(Kd.R_reads' h).2.2, (Kd.R_reads' h).2.1⟩
/-- The four cells of the revision, and its rows. -/
def RD (W : World) (g : Nat) (A3 : Option Addr) (c3 : Nat) (A4 : Option Addr) (c4 : Nat) : Prop :=
  (W.cell? ⟨g, 0, none⟩ = some (.int .i64 3) ∧ W.cell? ⟨g, 1, none⟩ = some (.int .i64 6) ∧ W.cell? ⟨g, 2, none⟩ = some (.slice A3 1 c3) ∧ W.cell? ⟨g, 3, none⟩ = some (.slice A4 1 c4)) ∧ Ints W A3 c3 1 [2] ∧ Ints W A4 c4 1 [5]
theorem RD.below {W W' : World} {g : Nat} {A3 : Option Addr} {c3 : Nat} {A4 : Option Addr} {c4 : Nat} (h : RD W g A3 c3 A4 c4) (hb : Below W.heap.size W W') : RD W' g A3 c3 A4 c4 :=
  ⟨⟨pw_cell_below hb h.1.1, pw_cell_below hb h.1.2.1, pw_cell_below hb h.1.2.2.1, pw_cell_below hb h.1.2.2.2⟩, h.2.1.below hb, h.2.2.below hb⟩
theorem RD.alloc {W : World} {g : Nat} {A3 : Option Addr} {c3 : Nat} {A4 : Option Addr} {c4 : Nat} (h : RD W g A3 c3 A4 c4) (o : Obj) : RD (W.alloc o) g A3 c3 A4 c4 := h.below (below_alloc (Below.refl _ _) o)
theorem RD.i3 {W : World} {g : Nat} {A3 : Option Addr} {c3 : Nat} {A4 : Option Addr} {c4 : Nat} (h : RD W g A3 c3 A4 c4) : Ints W A3 c3 1 [2] := h.2.1
theorem RD.i4 {W : World} {g : Nat} {A3 : Option Addr} {c3 : Nat} {A4 : Option Addr} {c4 : Nat} (h : RD W g A3 c3 A4 c4) : Ints W A4 c4 1 [5] := h.2.2
theorem RD.of {W : World} {g : Nat} {A3 : Option Addr} {c3 : Nat} {A4 : Option Addr} {c4 : Nat} (hx : W.heap[g]? = some (.cells #[.int .i64 0, .int .i64 0, .slice none 0 0, .slice none 0 0] 36 (0, 0))) (h3 : RR W (.slice A3 1 c3) [2]) (h4 : RR W (.slice A4 1 c4) [5]) :
    RD ((((W.setCell ⟨g, 0, none⟩ (.int .i64 3)).setCell ⟨g, 1, none⟩ (.int .i64 6)).setCell ⟨g, 2, none⟩ (.slice A3 1 c3)).setCell ⟨g, 3, none⟩ (.slice A4 1 c4)) g A3 c3 A4 c4 := by
  have x1 := blk_put (cs' := #[.int .i64 3, .int .i64 0, .slice none 0 0, .slice none 0 0]) hx 0 (.int .i64 3) rfl
  have x2 := blk_put (cs' := #[.int .i64 3, .int .i64 6, .slice none 0 0, .slice none 0 0]) x1 1 (.int .i64 6) rfl
  have x3 := blk_put (cs' := #[.int .i64 3, .int .i64 6, .slice A3 1 c3, .slice none 0 0]) x2 2 (.slice A3 1 c3) rfl
  have x4 := blk_put (cs' := #[.int .i64 3, .int .i64 6, .slice A3 1 c3, .slice A4 1 c4]) x3 3 (.slice A4 1 c4) rfl
  exact ⟨⟨blk_cell x4 0, blk_cell x4 1, blk_cell x4 2, blk_cell x4 3⟩, ((((h3.far hx 0 _).far x1 1 _).far x2 2 _).far x3 3 _).ints rfl, ((((h4.far hx 0 _).far x1 1 _).far x2 2 _).far x3 3 _).ints rfl⟩

set_option maxHeartbeats 1000000 in
theorem c_list (v : Int) (A : Option Addr) (n c : Nat) (W : World) : Calls Try.prog 24 #[.int .i64 v, .slice A n c] W fun e w' => e = .returned (.agg #[.int .i64 v, .slice A n c]) ∧ Below W.heap.size W w' := by
  have hu24 := Try.underlying24
  go_enter Try.func24, Try.ntmps24
  go_wp2_with ((with_reducible refine gate_dst (N := 4) rfl ?_); refine box_event ?hg (N := 4) ?hd (cs := #[.int .i64 0, .slice none 0 0]) (t := 24) ?hr ?_; (case hd => rfl); (case hg => rfl); (case hr => first | (go_simp; done) | (go_simp; rfl)); intro gb hg w3 hbox hb; have BK := Aside0.mk hbox; have HB := Aside0.mk hb; have GE := Aside0.mk (show W.heap.size ≤ gb by rw [hg]; exact Nat.le_refl _); have hs0 : w3.cell? ⟨gb, 0, none⟩ = some (.int .i64 0) := (blk_cell BK.out 0).trans rfl; have hs1 : w3.cell? ⟨gb, 1, none⟩ = some (.slice none 0 0) := (blk_cell BK.out 1).trans rfl; have hf0 := blk_frozen BK.out 0; have hf1 := blk_frozen BK.out 1; clear hbox hb hg)
  refine bodyPost_ret (results_cell_row rfl _ _ gb 24 #[.int .i64 v, .slice A n c] (0, 0) _ rfl (blk_put (cs' := #[.int .i64 v, .slice A n c]) (blk_put (cs' := #[.int .i64 v, .slice none 0 0]) BK.out 0 (.int .i64 v) rfl) 1 (.slice A n c) rfl) Try.underlying24 rfl (by kernel_rfl)) rfl ?_
  exact ⟨rfl, below_set (below_set HB.out GE.out) GE.out⟩
theorem c_change (la ld l2 : List Int) (v2 : Int) (n2 : Nat) (h2 : n2 = l2.length) (hx : revoke_Change.f 20 3 [5, 9] la ld = some (v2, l2, 0)) (W : World) (A A2 A3 : Option Addr) (c c2 c3 na nd : Nat) (hI : Ints W A c 2 [5, 9]) (hna : na = la.length) (hnd : nd = ld.length) (ha : Ints W A2 c2 na la) (hd : Ints W A3 c3 nd ld) :
    Calls Try.prog 16 #[.agg #[.int .i64 3, .slice A 2 c], .slice A2 na c2, .slice A3 nd c3] W fun e w' => ∃ A' c', e = .returned (.tuple #[.agg #[.int .i64 v2, .slice A' n2 c'], .int .i64 0]) ∧ Ints w' A' c' n2 l2 ∧ Below W.heap.size W w' := by
  subst hna hnd h2
  refine (revoke_Change.calls 20 3 A c [5, 9] (fun k_ => k_ < W.heap.size) A2 c2 la A3 c3 ld v2 l2 0 W hI.1 hI.2 (Kd.V_mk ha.2 (Kd.C_F (Kd.heap_int .i64) ha.1)) hd.1 hd.2 hx).mono ?_
  rintro e w' ⟨v, rfl, hR, hb⟩
  obtain ⟨A', c', rfl⟩ := Kd.R_slice hR
  exact ⟨A', c', rfl, ⟨(Kd.R_reads' hR).2.2, (Kd.R_reads' hR).2.1⟩, hb⟩
theorem c_diff (W : World) (A A2 : Option Addr) (c c2 : Nat) (hI : Ints W A c 2 [5, 9]) (hI2 : Ints W A2 c2 2 [2, 9]) :
    Calls Try.prog 22 #[.agg #[.int .i64 3, .slice A 2 c], .agg #[.int .i64 6, .slice A2 2 c2]] W fun e w' => ∃ v3 v4, e = .returned (.agg #[.int .i64 3, .int .i64 6, v3, v4]) ∧ RR w' v3 [2] ∧ RR w' v4 [5] ∧ Below W.heap.size W w' := by
  refine (revoke_Diff.calls 20 3 A c [5, 9] 6 A2 c2 [2, 9] 3 6 [2] [5] W hI.1 hI.2 hI2.1 hI2.2 ex4).mono ?_
  rintro e w' ⟨v3, v4, rfl, h3, h4, hb⟩
  exact ⟨v3, v4, rfl, ⟨_, _, h3⟩, ⟨_, _, h4⟩, hb⟩
theorem c_apply (ft tt : Int) (la ld l2 : List Int) (v2 er : Int) (n2 : Nat) (h2 : n2 = l2.length) (hx : revoke_Apply.f 20 3 [5, 9] ft tt la ld = some (v2, l2, er)) (W : World) (A A2 A3 : Option Addr) (c c2 c3 na nd : Nat) (hI : Ints W A c 2 [5, 9]) (hna : na = la.length) (hnd : nd = ld.length) (ha : Ints W A2 c2 na la) (hd : Ints W A3 c3 nd ld) :
    Calls Try.prog 19 #[.agg #[.int .i64 3, .slice A 2 c], .agg #[.int .i64 ft, .int .i64 tt, .slice A2 na c2, .slice A3 nd c3]] W fun e w' => ∃ A' c', e = .returned (.tuple #[.agg #[.int .i64 v2, .slice A' n2 c'], .int .i64 er]) ∧ Ints w' A' c' n2 l2 ∧ Below W.heap.size W w' := by
  subst hna hnd h2
  refine (revoke_Apply.calls 20 3 A c [5, 9] ft tt (fun k_ => k_ < W.heap.size) A2 c2 la A3 c3 ld v2 l2 er W hI.1 hI.2 (Kd.V_mk ha.2 (Kd.C_F (Kd.heap_int .i64) ha.1)) hd.1 hd.2 hx).mono ?_
  rintro e w' ⟨v, rfl, hR, hb⟩
  obtain ⟨A', c', rfl⟩ := Kd.R_slice hR
  exact ⟨A', c', rfl, ⟨(Kd.R_reads' hR).2.2, (Kd.R_reads' hR).2.1⟩, hb⟩
theorem c_same (v : Int) (l : List Int) (n : Nat) (hn : n = l.length) (hx : skiarearef27_Same.f 20 v l v l = some true) (W : World) (A A' : Option Addr) (c c' : Nat) (h : Ints W A c n l) (h' : Ints W A' c' n l) :
    Calls Try.prog 18 #[.agg #[.int .i64 v, .slice A n c], .agg #[.int .i64 v, .slice A' n c']] W fun e w' => e = .returned (.bool true) ∧ Below W.heap.size W w' := by
  subst hn
  exact skiarearef27_Same.calls 20 v A c l v A' c' l true W h.1 h.2 h'.1 h'.2 hx
theorem c_samer (W : World) (A A2 A3 A4 : Option Addr) (c c2 c3 c4 : Nat) (h : Ints W A c 1 [2]) (h2 : Ints W A2 c2 1 [5]) (h3 : Ints W A3 c3 1 [2]) (h4 : Ints W A4 c4 1 [5]) :
    Calls Try.prog 21 #[.agg #[.int .i64 3, .int .i64 6, .slice A 1 c, .slice A2 1 c2], .agg #[.int .i64 3, .int .i64 6, .slice A3 1 c3, .slice A4 1 c4]] W fun e w' => e = .returned (.bool true) ∧ Below W.heap.size W w' :=
  skiarearef27_SameRevision.calls 20 3 6 A c [2] A2 c2 [5] 3 6 A3 c3 [2] A4 c4 [5] true W h.1 h.2 h2.1 h2.2 h3.1 h3.2 h4.1 h4.2 ex12
theorem c_has (n : Int) (b : Bool) (hx : revoke_Has.f 20 3 [5, 9] n = some b) (W : World) (A : Option Addr) (c : Nat) (h : Ints W A c 2 [5, 9]) :
    Calls Try.prog 13 #[.agg #[.int .i64 3, .slice A 2 c], .int .i64 n] W fun e w' => e = .returned (.bool b) ∧ Below W.heap.size W w' :=
  revoke_Has.calls 20 3 A c [5, 9] n b W h.1 h.2 hx
theorem c_right (W : World) (A : Option Addr) (c : Nat) (h : Ints W A c 2 [5, 9]) :
    Calls Try.prog 10 #[.agg #[.int .i64 3, .slice A 2 c]] W fun e w' => e = .returned (.int .i64 0) ∧ Below W.heap.size W w' :=
  revoke_Right.calls 20 3 A c [5, 9] 0 W h.1 h.2 ex16
def al_T12 : Bool × List (List Nat × List Nat) := (true, [([], []), ([], []), ([1], [1]), ([0, 2, 2], [0, 2]), ([3, 3], [3]), ([4], [4]), ([4], [4]), ([5, 6, 4, 4], [4, 5, 6]), ([4, 7], [4, 7]), ([8, 7], [8]), ([9], [9]), ([9], [9]), ([11, 9, 9], [9, 11]), ([10, 12, 12, 9], [9, 10, 12]), ([9, 13], [9, 13]), ([14, 13], [14]), ([15], [15]), ([15], [15]), ([15], [15]), ([17, 18, 15], [15, 17, 18]), ([16, 19, 15, 15], [15, 16, 19]), ([15, 20], [15, 20]), ([21, 20], [21]), ([22], [22]), ([22], [22]), ([24, 22, 22], [22, 24]), ([23, 25, 25, 22], [22, 23, 25]), ([22, 26], [22, 26]), ([27, 26], [27]), ([28], [28]), ([29, 28, 28], [28, 29]), ([28, 30], [28, 30]), ([31, 30], [31]), ([32], [32]), ([33, 32, 32], [32, 33]), ([34, 32], [32, 34]), ([32, 35], [32, 35]), ([36, 34], [36]), ([37], [37]), ([38, 37, 37], [37, 38]), ([39, 37], [37, 39]), ([37, 40], [37, 40]), ([41, 39, 0, 1, 2, 3, 4, 5, 6, 7, 8, 9, 10, 11, 12, 13, 14, 15, 16, 17, 18, 19, 20, 21, 22, 23, 24, 25, 26, 27, 28, 29, 30, 31, 32, 33, 34, 35, 36, 37, 38, 39, 40, 41], [41])])
def al_B12 : List Nat := [0, 0, 2, 7, 15, 31, 31, 127, 255, 511, 1023, 1023, 3071, 8191, 16383, 32767, 65535, 65535, 65535, 458751, 1048575, 2097151, 4194303, 8388607, 8388607, 25165823, 67108863, 134217727, 268435455, 536870911, 1073741823, 2147483647, 4294967295, 8589934591, 17179869183, 34359738367, 68719476735, 137438953471, 274877906943, 549755813887, 1099511627775, 2199023255551, 4398046511103]
theorem al_tab12 : rtab .any (opsOf Try.f9 12) = al_T12 := by kernel_rfl
theorem al_bits12 : waitsOk al_T12.2 al_B12 = true := by kernel_rfl
set_option maxRecDepth 100000 in
set_option maxHeartbeats 1000000 in
theorem skiarealaw27_alive.calls (r : Bool) (w : World) (h : skiarealaw27_alive.f = some r) :
    Calls Try.prog 9 #[] w fun e w' => e = .returned (.bool r) ∧ Below w.heap.size w w' := by
  unfold skiarealaw27_alive.f at h
  injection h with h
  subst h
  have hu24 := Try.underlying24
  have hu36 := Try.underlying36
  go_enter Try.func9, Try.ntmps9
  go_wp2_with (first
    | (go_at_call 24; (with_reducible refine (c_list _ _ _ _ _).mono ?_); rintro e w1 ⟨rfl, hb⟩; have HI := Aside0.mk ((Ints.lit w [5, 9] (by decide) _ 2 rfl rfl (.cells #[.int .i64 5, .int .i64 9] 3) rfl).below hb); have HBW := Aside0.mk (show Below w.heap.size w w1 from (below_alloc (Below.refl _ _) _).trans (hb.mono (by simp))); clear hb)
      | (go_at_call 16; with_reducible refine (c_change [7, 9] [5] [7, 9] 4 2 rfl ex1 (((w1.alloc (.cells #[.int .i64 3, .slice (some ⟨w.heap.size, 0, none⟩) 2 2] 24)).alloc (.cells #[.int .i64 7, .int .i64 9] 3)).alloc (.cells #[.int .i64 5] 3)) _ _ _ _ _ _ 2 1 ?i1 rfl rfl ?i2 ?i3).mono ?_; (case i1 => exact ((HI.out.alloc _).alloc _).alloc _); (case i2 => refine Ints.alloc ?_ _; exact Ints.lit (w1.alloc (.cells #[.int .i64 3, .slice (some ⟨w.heap.size, 0, none⟩) 2 2] 24)) [7, 9] (by decide) _ 2 (by simp) rfl (.cells #[.int .i64 7, .int .i64 9] 3) rfl); (case i3 => exact Ints.lit ((w1.alloc (.cells #[.int .i64 3, .slice (some ⟨w.heap.size, 0, none⟩) 2 2] 24)).alloc (.cells #[.int .i64 7, .int .i64 9] 3)) [5] (by decide) _ 1 (by simp) rfl (.cells #[.int .i64 5] 3) rfl); rintro e w2 ⟨A2, c2, rfl, hI, hb0⟩; have hb : Below (World.heap (w1.alloc (.cells #[.int .i64 3, .slice (some ⟨w.heap.size, 0, none⟩) 2 2] 24))).size (w1.alloc (.cells #[.int .i64 3, .slice (some ⟨w.heap.size, 0, none⟩) 2 2] 24)) w2 := (below_alloc (below_alloc (Below.refl _ _) _) _).trans (hb0.mono (by simp)); clear hb0; have HR := Aside0.mk ((RV.new w1 w1.heap.size rfl 3 2 (some ⟨w.heap.size, 0, none⟩) 2 [5, 9] HI.out).below hb); clear HI; have HI := Aside0.mk hI; replace HBW := Aside0.mk ((below_alloc HBW.out _).trans (hb.mono (by have := HBW.out.size; simp; omega))); have hl0 := HR.out.c0; have hl1 := HR.out.c1; clear hb hI)
      | (go_at_call 16; with_reducible refine (c_change [5] [11] [5, 9] 3 2 rfl ex2 (((w2.alloc (.cells #[.int .i64 4, .slice A2 2 c2] 24)).alloc (.cells #[.int .i64 5] 3)).alloc (.cells #[.int .i64 11] 3)) _ _ _ _ _ _ 1 1 ?i1 rfl rfl ?i2 ?i3).mono ?_; (case i1 => exact ((HR.out.ints.alloc _).alloc _).alloc _); (case i2 => refine Ints.alloc ?_ _; exact Ints.lit (w2.alloc (.cells #[.int .i64 4, .slice A2 2 c2] 24)) [5] (by decide) _ 1 (by simp) rfl (.cells #[.int .i64 5] 3) rfl); (case i3 => exact Ints.lit ((w2.alloc (.cells #[.int .i64 4, .slice A2 2 c2] 24)).alloc (.cells #[.int .i64 5] 3)) [11] (by decide) _ 1 (by simp) rfl (.cells #[.int .i64 11] 3) rfl); rintro e w3 ⟨A3b, c3b, rfl, hI, hb0⟩; have hb : Below (World.heap (w2.alloc (.cells #[.int .i64 4, .slice A2 2 c2] 24))).size (w2.alloc (.cells #[.int .i64 4, .slice A2 2 c2] 24)) w3 := (below_alloc (below_alloc (Below.refl _ _) _) _).trans (hb0.mono (by simp)); clear hb0; have HA := Aside0.mk ((RV.new w2 w2.heap.size rfl 4 2 A2 c2 [7, 9] HI.out).below hb); have n_ := Aside0.mk ((HR.out.alloc _).below hb); clear HR HI hl0 hl1; have HR := n_; clear n_; have HI := Aside0.mk hI; replace HBW := Aside0.mk ((below_alloc HBW.out _).trans (hb.mono (by have := HBW.out.size; simp; omega))); have hl0 := HR.out.c0; have hl1 := HR.out.c1; clear hb hI)
      | (go_at_call 16; with_reducible refine (c_change [5] [5, 9] [5] 4 1 rfl ex3 (((w3.alloc (.cells #[.int .i64 3, .slice A3b 2 c3b] 24)).alloc (.cells #[.int .i64 5] 3)).alloc (.cells #[.int .i64 5, .int .i64 9] 3)) _ _ _ _ _ _ 1 2 ?i1 rfl rfl ?i2 ?i3).mono ?_; (case i1 => exact ((HR.out.ints.alloc _).alloc _).alloc _); (case i2 => refine Ints.alloc ?_ _; exact Ints.lit (w3.alloc (.cells #[.int .i64 3, .slice A3b 2 c3b] 24)) [5] (by decide) _ 1 (by simp) rfl (.cells #[.int .i64 5] 3) rfl); (case i3 => exact Ints.lit ((w3.alloc (.cells #[.int .i64 3, .slice A3b 2 c3b] 24)).alloc (.cells #[.int .i64 5] 3)) [5, 9] (by decide) _ 2 (by simp) rfl (.cells #[.int .i64 5, .int .i64 9] 3) rfl); rintro e w4 ⟨A4, c4, rfl, hI, hb0⟩; have hb : Below (World.heap (w3.alloc (.cells #[.int .i64 3, .slice A3b 2 c3b] 24))).size (w3.alloc (.cells #[.int .i64 3, .slice A3b 2 c3b] 24)) w4 := (below_alloc (below_alloc (Below.refl _ _) _) _).trans (hb0.mono (by simp)); clear hb0; have HBb := Aside0.mk ((RV.new w3 w3.heap.size rfl 3 2 A3b c3b [5, 9] HI.out).below hb); have n_ := Aside0.mk ((HR.out.alloc _).below hb); have m_ := Aside0.mk ((HA.out.alloc _).below hb); clear HR HI HA hl0 hl1; have HR := n_; have HA := m_; clear n_ m_; have HI := Aside0.mk hI; replace HBW := Aside0.mk ((below_alloc HBW.out _).trans (hb.mono (by have := HBW.out.size; simp; omega))); have hl0 := HR.out.c0; have hl1 := HR.out.c1; clear hb hI))
  clear hl0 hl1
  replace HBW := Aside0.mk (show Below w.heap.size w (w4.alloc (.cells #[.int .i64 4, .slice A4 1 c4] 24)).drew from below_drew1 (below_alloc HBW.out _))
  have n1 := Aside0.mk (HR.out.alloc (.cells #[.int .i64 4, .slice A4 1 c4] 24)).drew
  have n2 := Aside0.mk (HA.out.alloc (.cells #[.int .i64 4, .slice A4 1 c4] 24)).drew
  have n3 := Aside0.mk (HBb.out.alloc (.cells #[.int .i64 4, .slice A4 1 c4] 24)).drew
  have HCc := Aside0.mk (RV.new w4 w4.heap.size rfl 4 1 A4 c4 [5] HI.out).drew
  clear HR HA HBb HI
  have HR := n1
  have HA := n2
  have HBb := n3
  clear n1 n2 n3
  refine start_ (n := 6) (S := fun w' => w'.cell? ⟨w1.heap.size, 0, none⟩ = some (.int .i64 3) ∧ w'.cell? ⟨w1.heap.size, 1, none⟩ = some (.slice (some ⟨w.heap.size, 0, none⟩) 2 2)) (ds := []) #[false, false, false, false, false, false] (by kernel_rfl) rfl rfl ⟨HR.out.1, HR.out.2.1⟩ (fun hHeld => ?_)
  generalize (w4.alloc (.cells #[.int .i64 4, .slice A4 1 c4] 24)).drew = w5 at HBW HR HA HBb HCc hHeld ⊢
  have HB5 := Aside0.mk (Below.refl w5.heap.size w5)
  refine take_ (i := 0) (N := some 40) (v := ?_) (a' := ?_) #[true, false, false, false, false, false] rfl rfl (by kernel_rfl) (fun _ _ _ h => h) (Or.inl ⟨by rfl, ?_⟩) hHeld ?_ ?_
  rotate_left
  · rintro w' ⟨s0, s1⟩
    go_simp
    with_reducible rfl
  rotate_left
  · simp only [Act.put, List.setIfInBounds_toArray, List.set_cons_zero, List.set_cons_succ, i64_w, i32_w]
    rfl
  refine join_ (σ := Option Addr × Nat × Value × Value × Nat) 1 #[true, true, true, true, true, false] (fun s_ => [(41, .slice s_.1 2 s_.2.1), (42, .agg #[.int .i64 6, .slice s_.1 2 s_.2.1]), (43, .agg #[.int .i64 3, .int .i64 6, s_.2.2.1, s_.2.2.2.1]), (8, .pointer (some ⟨s_.2.2.2.2, 0, none⟩))]) (fun s_ w' => Below w5.heap.size w5 w' ∧ w5.heap.size ≤ s_.2.2.2.2 ∧ RR w' s_.2.2.1 [2] ∧ RR w' s_.2.2.2.1 [5] ∧ w'.heap[s_.2.2.2.2]? = some (.cells #[.int .i64 0, .int .i64 0, .slice none 0 0, .slice none 0 0] 36 (0, 0))) ?_ ?_
  rotate_left
  · intro hCont
    refine two_ (i := 1) (j := 4) (Ni := some 41) (Nj := some 8) #[true, true, false, false, false, false] #[true, false, false, false, true, false] rfl rfl rfl rfl (by kernel_rfl) (by decide) (by decide) (fun K hK => ?_) (fun K hK => ?_)
    · refine Kd.R_lit_step (Kd.int .i64) _ 3 ?hg (N := 41) ?hd (xs := ([2, 9] : List Int)) (inner := [.int .i64 2, .int .i64 9]) (ok := fun _ => True) (okp := fun _ => True) ?hr ?hp (fun _ hk => hk) trivial (Below.refl _ _) (Nat.le_refl _) (by simp) ?_; (case hd => rfl); (case hg => rfl); (case hr => first | (go_simp; done) | (go_simp; rfl)); (case hp => exact (Reps.one (show Kd.M (Kd.int .i64) _ _ _ 2 [.int .i64 2] from rfl) (Reps.one (show Kd.M (Kd.int .i64) _ _ _ 9 [.int .i64 9] from rfl) (Reps.none _ _))))
      intro v_ w101 ho hb hg_ hnew_
      clear hg_ hnew_
      obtain ⟨A41, c41, hv⟩ := Kd.R_slice ho
      have hv : v_ = .slice A41 2 c41 := hv
      subst hv
      have HL := Aside0.mk (show Ints w101 A41 c41 2 [2, 9] from ⟨(Kd.R_reads' ho).2.2, (Kd.R_reads' ho).2.1⟩)
      replace HB5 := Aside0.mk (HB5.out.trans (hb.mono HB5.out.size))
      refine hK.out _ _ ⟨(HR.out.below HB5.out).1, (HR.out.below HB5.out).2.1⟩ (fun hHeld => ?_)
      clear hK K
      refine norm_ (a' := ?_) ?_ ?_
      rotate_left
      · show Act.put _ (some 41) _ = _
        simp only [Act.put, List.setIfInBounds_toArray, List.set_cons_zero, List.set_cons_succ, i64_w, i32_w]
        rfl
      refine two_ (i := 2) (j := 4) (Ni := some 42) (Nj := some 8) #[true, true, true, false, false, false] #[true, true, false, false, true, false] rfl rfl rfl rfl (by kernel_rfl) (by decide) (by decide) (fun K hK => ?_) (fun K hK => ?_)
      · refine goes_ Try.func24 (by kernel_rfl) rfl #[.int .i64 6, .slice A41 2 c41] (by rfl) rfl rfl (by (try simp only [List.map_toArray, List.map_cons, List.map_nil]); first | done | rfl) ?_
        refine (c_list 6 A41 2 c41 _).mono ?_
        rintro e w102 ⟨rfl, hb⟩
        refine ⟨_, rfl, ?_⟩
        replace HB5 := Aside0.mk (HB5.out.trans (hb.mono HB5.out.size))
        replace HL := Aside0.mk (HL.out.below hb)
        refine hK.out _ _ ⟨(HR.out.below HB5.out).1, (HR.out.below HB5.out).2.1⟩ (fun hHeld => ?_)
        clear hK K
        refine norm_ (a' := ?_) ?_ ?_
        rotate_left
        · show Act.put _ (some 42) _ = _
          simp only [Act.put, List.setIfInBounds_toArray, List.set_cons_zero, List.set_cons_succ, i64_w, i32_w]
          rfl
        refine two_ (i := 3) (j := 4) (Ni := some 43) (Nj := some 8) #[true, true, true, true, false, false] #[true, true, true, false, true, false] rfl rfl rfl rfl (by kernel_rfl) (by decide) (by decide) (fun K hK => ?_) (fun K hK => ?_)
        · refine goes_ Try.func22 (by kernel_rfl) rfl #[.agg #[.int .i64 3, .slice (some ⟨w.heap.size, 0, none⟩) 2 2], .agg #[.int .i64 6, .slice A41 2 c41]] (by rfl) rfl rfl (by (try simp only [List.map_toArray, List.map_cons, List.map_nil]); first | done | rfl) ?_
          refine (c_diff _ _ _ _ _ (HR.out.below HB5.out).2.2 HL.out).mono ?_
          rintro e w103 ⟨v3, v4, rfl, hV3, hV4, hb⟩
          refine ⟨_, rfl, ?_⟩
          have HV3 := Aside0.mk hV3
          have HV4 := Aside0.mk hV4
          replace HB5 := Aside0.mk (HB5.out.trans (hb.mono HB5.out.size))
          replace HL := Aside0.mk (HL.out.below hb)
          refine hK.out _ _ ⟨(HR.out.below HB5.out).1, (HR.out.below HB5.out).2.1⟩ (fun hHeld => ?_)
          clear hK K
          refine norm_ (a' := ?_) ?_ ?_
          rotate_left
          · show Act.put _ (some 43) _ = _
            simp only [Act.put, List.setIfInBounds_toArray, List.set_cons_zero, List.set_cons_succ, i64_w, i32_w]
            rfl
          refine one_ (i := 4) (N := some 8) #[true, true, true, true, true, false] rfl rfl (by kernel_rfl) (by decide) (fun K hK => ?_)
          refine box_step ?hg (N := 8) ?hd (cs := #[.int .i64 0, .int .i64 0, .slice none 0 0, .slice none 0 0]) (t := 36) ?hr ?_; (case hd => rfl); (case hg => rfl); (case hr => first | (go_simp; done) | (go_simp; rfl))
          intro g8 hg w104 hbox hb
          have HX := Aside0.mk hbox
          have HG8 := Aside0.mk (show w5.heap.size ≤ g8 by rw [hg]; exact HB5.out.size)
          replace HB5 := Aside0.mk (HB5.out.trans (hb.mono HB5.out.size))
          replace HL := Aside0.mk (HL.out.below hb)
          replace HV3 := Aside0.mk (HV3.out.below hb)
          replace HV4 := Aside0.mk (HV4.out.below hb)
          refine hK.out _ _ ⟨(HR.out.below HB5.out).1, (HR.out.below HB5.out).2.1⟩ (fun hHeld => ?_)
          clear hK K
          refine norm_ (a' := ?_) ?_ ?_
          rotate_left
          · show Act.put _ (some 8) _ = _
            simp only [Act.put, List.setIfInBounds_toArray, List.set_cons_zero, List.set_cons_succ, i64_w, i32_w]
            rfl
          exact norm_ (by simp only [putAll, Act.put, List.setIfInBounds_toArray, List.set_cons_zero, List.set_cons_succ]) (hCont (A41, c41, v3, v4, g8) _ ⟨HB5.out, HG8.out, HV3.out, HV4.out, HX.out⟩)
        · refine box_step ?hg (N := 8) ?hd (cs := #[.int .i64 0, .int .i64 0, .slice none 0 0, .slice none 0 0]) (t := 36) ?hr ?_; (case hd => rfl); (case hg => rfl); (case hr => first | (go_simp; done) | (go_simp; rfl))
          intro g8 hg w105 hbox hb
          have HX := Aside0.mk hbox
          have HG8 := Aside0.mk (show w5.heap.size ≤ g8 by rw [hg]; exact HB5.out.size)
          replace HB5 := Aside0.mk (HB5.out.trans (hb.mono HB5.out.size))
          replace HL := Aside0.mk (HL.out.below hb)
          refine hK.out _ _ ⟨(HR.out.below HB5.out).1, (HR.out.below HB5.out).2.1⟩ (fun hHeld => ?_)
          clear hK K
          refine norm_ (a' := ?_) ?_ ?_
          rotate_left
          · show Act.put _ (some 8) _ = _
            simp only [Act.put, List.setIfInBounds_toArray, List.set_cons_zero, List.set_cons_succ, i64_w, i32_w]
            rfl
          refine one_ (i := 3) (N := some 43) #[true, true, true, true, true, false] rfl rfl (by kernel_rfl) (by decide) (fun K hK => ?_)
          refine goes_ Try.func22 (by kernel_rfl) rfl #[.agg #[.int .i64 3, .slice (some ⟨w.heap.size, 0, none⟩) 2 2], .agg #[.int .i64 6, .slice A41 2 c41]] (by rfl) rfl rfl (by (try simp only [List.map_toArray, List.map_cons, List.map_nil]); first | done | rfl) ?_
          refine (c_diff _ _ _ _ _ (HR.out.below HB5.out).2.2 HL.out).mono ?_
          rintro e w106 ⟨v3, v4, rfl, hV3, hV4, hb⟩
          refine ⟨_, rfl, ?_⟩
          have HV3 := Aside0.mk hV3
          have HV4 := Aside0.mk hV4
          replace HB5 := Aside0.mk (HB5.out.trans (hb.mono HB5.out.size))
          replace HL := Aside0.mk (HL.out.below hb)
          replace HX := Aside0.mk (blk_below HX.out hb)
          refine hK.out _ _ ⟨(HR.out.below HB5.out).1, (HR.out.below HB5.out).2.1⟩ (fun hHeld => ?_)
          clear hK K
          refine norm_ (a' := ?_) ?_ ?_
          rotate_left
          · show Act.put _ (some 43) _ = _
            simp only [Act.put, List.setIfInBounds_toArray, List.set_cons_zero, List.set_cons_succ, i64_w, i32_w]
            rfl
          exact norm_ (by simp only [putAll, Act.put, List.setIfInBounds_toArray, List.set_cons_zero, List.set_cons_succ]) (hCont (A41, c41, v3, v4, g8) _ ⟨HB5.out, HG8.out, HV3.out, HV4.out, HX.out⟩)
      · refine box_step ?hg (N := 8) ?hd (cs := #[.int .i64 0, .int .i64 0, .slice none 0 0, .slice none 0 0]) (t := 36) ?hr ?_; (case hd => rfl); (case hg => rfl); (case hr => first | (go_simp; done) | (go_simp; rfl))
        intro g8 hg w107 hbox hb
        have HX := Aside0.mk hbox
        have HG8 := Aside0.mk (show w5.heap.size ≤ g8 by rw [hg]; exact HB5.out.size)
        replace HB5 := Aside0.mk (HB5.out.trans (hb.mono HB5.out.size))
        replace HL := Aside0.mk (HL.out.below hb)
        refine hK.out _ _ ⟨(HR.out.below HB5.out).1, (HR.out.below HB5.out).2.1⟩ (fun hHeld => ?_)
        clear hK K
        refine norm_ (a' := ?_) ?_ ?_
        rotate_left
        · show Act.put _ (some 8) _ = _
          simp only [Act.put, List.setIfInBounds_toArray, List.set_cons_zero, List.set_cons_succ, i64_w, i32_w]
          rfl
        refine one_ (i := 2) (N := some 42) #[true, true, true, false, true, false] rfl rfl (by kernel_rfl) (by decide) (fun K hK => ?_)
        refine goes_ Try.func24 (by kernel_rfl) rfl #[.int .i64 6, .slice A41 2 c41] (by rfl) rfl rfl (by (try simp only [List.map_toArray, List.map_cons, List.map_nil]); first | done | rfl) ?_
        refine (c_list 6 A41 2 c41 _).mono ?_
        rintro e w108 ⟨rfl, hb⟩
        refine ⟨_, rfl, ?_⟩
        replace HB5 := Aside0.mk (HB5.out.trans (hb.mono HB5.out.size))
        replace HL := Aside0.mk (HL.out.below hb)
        replace HX := Aside0.mk (blk_below HX.out hb)
        refine hK.out _ _ ⟨(HR.out.below HB5.out).1, (HR.out.below HB5.out).2.1⟩ (fun hHeld => ?_)
        clear hK K
        refine norm_ (a' := ?_) ?_ ?_
        rotate_left
        · show Act.put _ (some 42) _ = _
          simp only [Act.put, List.setIfInBounds_toArray, List.set_cons_zero, List.set_cons_succ, i64_w, i32_w]
          rfl
        refine one_ (i := 3) (N := some 43) #[true, true, true, true, true, false] rfl rfl (by kernel_rfl) (by decide) (fun K hK => ?_)
        refine goes_ Try.func22 (by kernel_rfl) rfl #[.agg #[.int .i64 3, .slice (some ⟨w.heap.size, 0, none⟩) 2 2], .agg #[.int .i64 6, .slice A41 2 c41]] (by rfl) rfl rfl (by (try simp only [List.map_toArray, List.map_cons, List.map_nil]); first | done | rfl) ?_
        refine (c_diff _ _ _ _ _ (HR.out.below HB5.out).2.2 HL.out).mono ?_
        rintro e w109 ⟨v3, v4, rfl, hV3, hV4, hb⟩
        refine ⟨_, rfl, ?_⟩
        have HV3 := Aside0.mk hV3
        have HV4 := Aside0.mk hV4
        replace HB5 := Aside0.mk (HB5.out.trans (hb.mono HB5.out.size))
        replace HL := Aside0.mk (HL.out.below hb)
        replace HX := Aside0.mk (blk_below HX.out hb)
        refine hK.out _ _ ⟨(HR.out.below HB5.out).1, (HR.out.below HB5.out).2.1⟩ (fun hHeld => ?_)
        clear hK K
        refine norm_ (a' := ?_) ?_ ?_
        rotate_left
        · show Act.put _ (some 43) _ = _
          simp only [Act.put, List.setIfInBounds_toArray, List.set_cons_zero, List.set_cons_succ, i64_w, i32_w]
          rfl
        exact norm_ (by simp only [putAll, Act.put, List.setIfInBounds_toArray, List.set_cons_zero, List.set_cons_succ]) (hCont (A41, c41, v3, v4, g8) _ ⟨HB5.out, HG8.out, HV3.out, HV4.out, HX.out⟩)
    · refine box_step ?hg (N := 8) ?hd (cs := #[.int .i64 0, .int .i64 0, .slice none 0 0, .slice none 0 0]) (t := 36) ?hr ?_; (case hd => rfl); (case hg => rfl); (case hr => first | (go_simp; done) | (go_simp; rfl))
      intro g8 hg w110 hbox hb
      have HX := Aside0.mk hbox
      have HG8 := Aside0.mk (show w5.heap.size ≤ g8 by rw [hg]; exact HB5.out.size)
      replace HB5 := Aside0.mk (HB5.out.trans (hb.mono HB5.out.size))
      refine hK.out _ _ ⟨(HR.out.below HB5.out).1, (HR.out.below HB5.out).2.1⟩ (fun hHeld => ?_)
      clear hK K
      refine norm_ (a' := ?_) ?_ ?_
      rotate_left
      · show Act.put _ (some 8) _ = _
        simp only [Act.put, List.setIfInBounds_toArray, List.set_cons_zero, List.set_cons_succ, i64_w, i32_w]
        rfl
      refine one_ (i := 1) (N := some 41) #[true, true, false, false, true, false] rfl rfl (by kernel_rfl) (by decide) (fun K hK => ?_)
      refine Kd.R_lit_step (Kd.int .i64) _ 3 ?hg (N := 41) ?hd (xs := ([2, 9] : List Int)) (inner := [.int .i64 2, .int .i64 9]) (ok := fun _ => True) (okp := fun _ => True) ?hr ?hp (fun _ hk => hk) trivial (Below.refl _ _) (Nat.le_refl _) (by simp) ?_; (case hd => rfl); (case hg => rfl); (case hr => first | (go_simp; done) | (go_simp; rfl)); (case hp => exact (Reps.one (show Kd.M (Kd.int .i64) _ _ _ 2 [.int .i64 2] from rfl) (Reps.one (show Kd.M (Kd.int .i64) _ _ _ 9 [.int .i64 9] from rfl) (Reps.none _ _))))
      intro v_ w111 ho hb hg_ hnew_
      clear hg_ hnew_
      obtain ⟨A41, c41, hv⟩ := Kd.R_slice ho
      have hv : v_ = .slice A41 2 c41 := hv
      subst hv
      have HL := Aside0.mk (show Ints w111 A41 c41 2 [2, 9] from ⟨(Kd.R_reads' ho).2.2, (Kd.R_reads' ho).2.1⟩)
      replace HB5 := Aside0.mk (HB5.out.trans (hb.mono HB5.out.size))
      replace HX := Aside0.mk (blk_below HX.out hb)
      refine hK.out _ _ ⟨(HR.out.below HB5.out).1, (HR.out.below HB5.out).2.1⟩ (fun hHeld => ?_)
      clear hK K
      refine norm_ (a' := ?_) ?_ ?_
      rotate_left
      · show Act.put _ (some 41) _ = _
        simp only [Act.put, List.setIfInBounds_toArray, List.set_cons_zero, List.set_cons_succ, i64_w, i32_w]
        rfl
      refine one_ (i := 2) (N := some 42) #[true, true, true, false, true, false] rfl rfl (by kernel_rfl) (by decide) (fun K hK => ?_)
      refine goes_ Try.func24 (by kernel_rfl) rfl #[.int .i64 6, .slice A41 2 c41] (by rfl) rfl rfl (by (try simp only [List.map_toArray, List.map_cons, List.map_nil]); first | done | rfl) ?_
      refine (c_list 6 A41 2 c41 _).mono ?_
      rintro e w112 ⟨rfl, hb⟩
      refine ⟨_, rfl, ?_⟩
      replace HB5 := Aside0.mk (HB5.out.trans (hb.mono HB5.out.size))
      replace HL := Aside0.mk (HL.out.below hb)
      replace HX := Aside0.mk (blk_below HX.out hb)
      refine hK.out _ _ ⟨(HR.out.below HB5.out).1, (HR.out.below HB5.out).2.1⟩ (fun hHeld => ?_)
      clear hK K
      refine norm_ (a' := ?_) ?_ ?_
      rotate_left
      · show Act.put _ (some 42) _ = _
        simp only [Act.put, List.setIfInBounds_toArray, List.set_cons_zero, List.set_cons_succ, i64_w, i32_w]
        rfl
      refine one_ (i := 3) (N := some 43) #[true, true, true, true, true, false] rfl rfl (by kernel_rfl) (by decide) (fun K hK => ?_)
      refine goes_ Try.func22 (by kernel_rfl) rfl #[.agg #[.int .i64 3, .slice (some ⟨w.heap.size, 0, none⟩) 2 2], .agg #[.int .i64 6, .slice A41 2 c41]] (by rfl) rfl rfl (by (try simp only [List.map_toArray, List.map_cons, List.map_nil]); first | done | rfl) ?_
      refine (c_diff _ _ _ _ _ (HR.out.below HB5.out).2.2 HL.out).mono ?_
      rintro e w113 ⟨v3, v4, rfl, hV3, hV4, hb⟩
      refine ⟨_, rfl, ?_⟩
      have HV3 := Aside0.mk hV3
      have HV4 := Aside0.mk hV4
      replace HB5 := Aside0.mk (HB5.out.trans (hb.mono HB5.out.size))
      replace HL := Aside0.mk (HL.out.below hb)
      replace HX := Aside0.mk (blk_below HX.out hb)
      refine hK.out _ _ ⟨(HR.out.below HB5.out).1, (HR.out.below HB5.out).2.1⟩ (fun hHeld => ?_)
      clear hK K
      refine norm_ (a' := ?_) ?_ ?_
      rotate_left
      · show Act.put _ (some 43) _ = _
        simp only [Act.put, List.setIfInBounds_toArray, List.set_cons_zero, List.set_cons_succ, i64_w, i32_w]
        rfl
      exact norm_ (by simp only [putAll, Act.put, List.setIfInBounds_toArray, List.set_cons_zero, List.set_cons_succ]) (hCont (A41, c41, v3, v4, g8) _ ⟨HB5.out, HG8.out, HV3.out, HV4.out, HX.out⟩)
  rintro ⟨A41, c41, v3, v4, g8⟩ w6 ⟨hB5, hG8, hV3, hV4, hX⟩
  dsimp only at hB5 hG8 hV3 hV4 hX
  replace HB5 := Aside0.mk hB5
  have HG8 := Aside0.mk hG8
  have HV3 := Aside0.mk hV3
  have HV4 := Aside0.mk hV4
  have HX := Aside0.mk hX
  clear hB5 hG8 hV3 hV4 hX hHeld
  obtain ⟨A3, c3, e3⟩ := HV3.out.slice
  have e3 : v3 = .slice A3 1 c3 := e3
  subst e3
  obtain ⟨A5, c5, e5⟩ := HV4.out.slice
  have e5 : v4 = .slice A5 1 c5 := e5
  subst e5
  refine norm_ (a' := ?_) ?_ ?_
  rotate_left
  · simp only [putAll, Act.put, List.setIfInBounds_toArray, List.set_cons_zero, List.set_cons_succ]
    rfl
  refine one_ (i := 5) (N := none) #[true, true, true, true, true, true] rfl rfl (by kernel_rfl) (by decide) (fun K hK => ?_)
  have hs0 : w6.cell? ⟨g8, 0, none⟩ = some (.int .i64 0) := (blk_cell HX.out 0).trans rfl
  have hfs0 := blk_frozen HX.out 0
  have hs1 : w6.cell? ⟨g8, 1, none⟩ = some (.int .i64 0) := (blk_cell HX.out 1).trans rfl
  have hfs1 := blk_frozen HX.out 1
  have hs2 : w6.cell? ⟨g8, 2, none⟩ = some (.slice none 0 0) := (blk_cell HX.out 2).trans rfl
  have hfs2 := blk_frozen HX.out 2
  have hs3 : w6.cell? ⟨g8, 3, none⟩ = some (.slice none 0 0) := (blk_cell HX.out 3).trans rfl
  have hfs3 := blk_frozen HX.out 3
  refine skip_ (w1 := ?_) (by rfl) rfl ?_ ?_
  rotate_left
  · go_simp
    rfl
  have HBE := Aside0.mk (show Below w5.heap.size w5 ((((w6.setCell ⟨g8, 0, none⟩ (.int .i64 3)).setCell ⟨g8, 1, none⟩ (.int .i64 6)).setCell ⟨g8, 2, none⟩ (.slice A3 1 c3)).setCell ⟨g8, 3, none⟩ (.slice A5 1 c5)) from below_set (below_set (below_set (below_set HB5.out HG8.out) HG8.out) HG8.out) HG8.out)
  replace HBW := Aside0.mk (HBW.out.trans (HBE.out.mono HBW.out.size))
  have HD := Aside0.mk (RD.of HX.out HV3.out HV4.out)
  clear hs0 hs1 hs2 hs3 hfs0 hfs1 hfs2 hfs3 HV3 HV4 HX HB5 HG8
  replace HR := Aside0.mk (HR.out.below HBE.out)
  replace HA := Aside0.mk (HA.out.below HBE.out)
  replace HBb := Aside0.mk (HBb.out.below HBE.out)
  replace HCc := Aside0.mk (HCc.out.below HBE.out)
  clear HBE
  refine hK.out _ _ ⟨HR.out.1, HR.out.2.1⟩ (fun hHeld => ?_)
  clear hK K hHeld
  refine done_ (by kernel_rfl) ?_
  generalize ((((w6.setCell ⟨g8, 0, none⟩ (.int .i64 3)).setCell ⟨g8, 1, none⟩ (.int .i64 6)).setCell ⟨g8, 2, none⟩ (.slice A3 1 c3)).setCell ⟨g8, 3, none⟩ (.slice A5 1 c5)) = w7 at HBW HR HA HBb HCc HD ⊢
  have hr0 := HR.out.1
  have hr1 := HR.out.2.1
  have hd0 := HD.out.1.1
  have hd1 := HD.out.1.2.1
  have hd2 := HD.out.1.2.2.1
  have hd3 := HD.out.1.2.2.2
  go_wp2_with (first
    | (go_at_call 19; with_reducible refine (c_apply 3 6 [2] [5] [2, 9] 6 0 2 rfl ex5 w7 _ _ _ _ _ _ 1 1 ?i1 rfl rfl ?i2 ?i3).mono ?_; (case i1 => exact HR.out.ints); (case i2 => exact HD.out.i3); (case i3 => exact HD.out.i4); rintro e w8 ⟨A8, c8, rfl, hI, hb0⟩; have hb : Below (World.heap w7).size w7 w8 := hb0; clear hb0; clear hr0 hr1 hd0 hd1 hd2 hd3; have n_ := Aside0.mk ((HR.out).below hb); clear HR; have HR := n_; clear n_; have n_ := Aside0.mk ((HA.out).below hb); clear HA; have HA := n_; clear n_; have n_ := Aside0.mk ((HBb.out).below hb); clear HBb; have HBb := n_; clear n_; have n_ := Aside0.mk ((HCc.out).below hb); clear HCc; have HCc := n_; clear n_; have n_ := Aside0.mk ((HD.out).below hb); clear HD; have HD := n_; clear n_; have HI := Aside0.mk hI; replace HBW := Aside0.mk ((HBW.out).trans (hb.mono (by have := HBW.out.size; omega))); have hl0 := HR.out.c0; have hl1 := HR.out.c1; clear hb hI)
      | (go_at_call 19; with_reducible refine (c_apply 2 6 [] [] [] 0 14 0 rfl ex6 (w8.alloc (.cells #[.int .i64 6, .slice A8 2 c8] 24)) _ _ _ _ _ _ 0 0 ?i1 rfl rfl ?i2 ?i3).mono ?_; (case i1 => exact HR.out.ints.alloc _); (case i2 => exact Ints.nil _); (case i3 => exact Ints.nil _); rintro e w9 ⟨A9, c9, rfl, hI, hb0⟩; have hb : Below (World.heap (w8.alloc (.cells #[.int .i64 6, .slice A8 2 c8] 24))).size (w8.alloc (.cells #[.int .i64 6, .slice A8 2 c8] 24)) w9 := hb0; clear hb0; have HXx := Aside0.mk ((RV.new w8 w8.heap.size rfl 6 2 A8 c8 [2, 9] HI.out).below hb); clear hl0 hl1 HI; have n_ := Aside0.mk ((HR.out.alloc _).below hb); clear HR; have HR := n_; clear n_; have n_ := Aside0.mk ((HA.out.alloc _).below hb); clear HA; have HA := n_; clear n_; have n_ := Aside0.mk ((HBb.out.alloc _).below hb); clear HBb; have HBb := n_; clear n_; have n_ := Aside0.mk ((HCc.out.alloc _).below hb); clear HCc; have HCc := n_; clear n_; have n_ := Aside0.mk ((HD.out.alloc _).below hb); clear HD; have HD := n_; clear n_; replace HBW := Aside0.mk ((below_alloc HBW.out _).trans (hb.mono (by have := HBW.out.size; simp; omega))); have hl0 := HR.out.c0; have hl1 := HR.out.c1; clear hb hI)
      | (go_at_call 19; with_reducible refine (c_apply 3 4 [9] [] [] 0 7 0 rfl ex7 ((w9.alloc (.cells #[.int .i64 0, .slice A9 0 c9] 24)).alloc (.cells #[.int .i64 9] 3)) _ _ _ _ _ _ 1 0 ?i1 rfl rfl ?i2 ?i3).mono ?_; (case i1 => exact (HR.out.ints.alloc _).alloc _); (case i2 => exact Ints.lit (w9.alloc (.cells #[.int .i64 0, .slice A9 0 c9] 24)) [9] (by decide) _ 1 (by simp) rfl (.cells #[.int .i64 9] 3) rfl); (case i3 => exact Ints.nil _); rintro e w10 ⟨A10, c10, rfl, hI, hb0⟩; have hb : Below (World.heap (w9.alloc (.cells #[.int .i64 0, .slice A9 0 c9] 24))).size (w9.alloc (.cells #[.int .i64 0, .slice A9 0 c9] 24)) w10 := (below_alloc (Below.refl _ _) _).trans (hb0.mono (by simp)); clear hb0; clear hl0 hl1; have n_ := Aside0.mk ((HR.out.alloc _).below hb); clear HR; have HR := n_; clear n_; have n_ := Aside0.mk ((HA.out.alloc _).below hb); clear HA; have HA := n_; clear n_; have n_ := Aside0.mk ((HBb.out.alloc _).below hb); clear HBb; have HBb := n_; clear n_; have n_ := Aside0.mk ((HCc.out.alloc _).below hb); clear HCc; have HCc := n_; clear n_; have n_ := Aside0.mk ((HD.out.alloc _).below hb); clear HD; have HD := n_; clear n_; have n_ := Aside0.mk ((HXx.out.alloc _).below hb); clear HXx; have HXx := n_; clear n_; replace HBW := Aside0.mk ((below_alloc HBW.out _).trans (hb.mono (by have := HBW.out.size; simp; omega))); have hl0 := HR.out.c0; have hl1 := HR.out.c1; clear hb hI)
      | (go_at_call 19; with_reducible refine (c_apply 3 4 [] [4] [] 0 8 0 rfl ex8 ((w10.alloc (.cells #[.int .i64 0, .slice A10 0 c10] 24)).alloc (.cells #[.int .i64 4] 3)) _ _ _ _ _ _ 0 1 ?i1 rfl rfl ?i2 ?i3).mono ?_; (case i1 => exact (HR.out.ints.alloc _).alloc _); (case i2 => exact Ints.nil _); (case i3 => exact Ints.lit (w10.alloc (.cells #[.int .i64 0, .slice A10 0 c10] 24)) [4] (by decide) _ 1 (by simp) rfl (.cells #[.int .i64 4] 3) rfl); rintro e w11 ⟨A11, c11, rfl, hI, hb0⟩; have hb : Below (World.heap (w10.alloc (.cells #[.int .i64 0, .slice A10 0 c10] 24))).size (w10.alloc (.cells #[.int .i64 0, .slice A10 0 c10] 24)) w11 := (below_alloc (Below.refl _ _) _).trans (hb0.mono (by simp)); clear hb0; clear hl0 hl1; have n_ := Aside0.mk ((HR.out.alloc _).below hb); clear HR; have HR := n_; clear n_; have n_ := Aside0.mk ((HA.out.alloc _).below hb); clear HA; have HA := n_; clear n_; have n_ := Aside0.mk ((HBb.out.alloc _).below hb); clear HBb; have HBb := n_; clear n_; have n_ := Aside0.mk ((HCc.out.alloc _).below hb); clear HCc; have HCc := n_; clear n_; have n_ := Aside0.mk ((HD.out.alloc _).below hb); clear HD; have HD := n_; clear n_; have n_ := Aside0.mk ((HXx.out.alloc _).below hb); clear HXx; have HXx := n_; clear n_; replace HBW := Aside0.mk ((below_alloc HBW.out _).trans (hb.mono (by have := HBW.out.size; simp; omega))); have hl0 := HR.out.c0; have hl1 := HR.out.c1; clear hb hI))
  clear hl0 hl1
  replace HR := Aside0.mk (HR.out.alloc (.cells #[.int .i64 0, .slice A11 0 c11] 24)).drew
  replace HA := Aside0.mk (HA.out.alloc (.cells #[.int .i64 0, .slice A11 0 c11] 24)).drew
  replace HBb := Aside0.mk (HBb.out.alloc (.cells #[.int .i64 0, .slice A11 0 c11] 24)).drew
  replace HCc := Aside0.mk (HCc.out.alloc (.cells #[.int .i64 0, .slice A11 0 c11] 24)).drew
  replace HXx := Aside0.mk (HXx.out.alloc (.cells #[.int .i64 0, .slice A11 0 c11] 24)).drew
  replace HD := Aside0.mk ((HD.out.alloc (.cells #[.int .i64 0, .slice A11 0 c11] 24)).below (below_drew (Below.refl _ _)))
  have HB0 := Aside0.mk (show Below w.heap.size w (w11.alloc (.cells #[.int .i64 0, .slice A11 0 c11] 24)).drew from below_drew1 (below_alloc HBW.out _))
  have HB := Aside0.mk (Below.refl (World.heap (w11.alloc (.cells #[.int .i64 0, .slice A11 0 c11] 24)).drew).size (w11.alloc (.cells #[.int .i64 0, .slice A11 0 c11] 24)).drew)
  refine start_ (n := 43) (S := fun w' => w'.cell? ⟨w2.heap.size, 0, none⟩ = some (.int .i64 4) ∧ w'.cell? ⟨w2.heap.size, 1, none⟩ = some (.slice (A2) 2 c2) ∧ w'.cell? ⟨w3.heap.size, 0, none⟩ = some (.int .i64 3) ∧ w'.cell? ⟨w3.heap.size, 1, none⟩ = some (.slice (A3b) 2 c3b) ∧ w'.cell? ⟨w1.heap.size, 0, none⟩ = some (.int .i64 3) ∧ w'.cell? ⟨w1.heap.size, 1, none⟩ = some (.slice (some ⟨w.heap.size, 0, none⟩) 2 2) ∧ w'.cell? ⟨w4.heap.size, 0, none⟩ = some (.int .i64 4) ∧ w'.cell? ⟨w4.heap.size, 1, none⟩ = some (.slice (A4) 1 c4) ∧ w'.cell? ⟨g8, 0, none⟩ = some (.int .i64 3) ∧ w'.cell? ⟨g8, 1, none⟩ = some (.int .i64 6) ∧ w'.cell? ⟨g8, 2, none⟩ = some (.slice A3 1 c3) ∧ w'.cell? ⟨g8, 3, none⟩ = some (.slice A5 1 c5) ∧ w'.cell? ⟨w8.heap.size, 0, none⟩ = some (.int .i64 6) ∧ w'.cell? ⟨w8.heap.size, 1, none⟩ = some (.slice A8 2 c8)) (ds := []) #[false, false, false, false, false, false, false, false, false, false, false, false, false, false, false, false, false, false, false, false, false, false, false, false, false, false, false, false, false, false, false, false, false, false, false, false, false, false, false, false, false, false, false] (by kernel_rfl) rfl rfl ⟨(HA.out.below HB.out).1, (HA.out.below HB.out).2.1, (HBb.out.below HB.out).1, (HBb.out.below HB.out).2.1, (HR.out.below HB.out).1, (HR.out.below HB.out).2.1, (HCc.out.below HB.out).1, (HCc.out.below HB.out).2.1, (HD.out.below HB.out).1.1, (HD.out.below HB.out).1.2.1, (HD.out.below HB.out).1.2.2.1, (HD.out.below HB.out).1.2.2.2, (HXx.out.below HB.out).1, (HXx.out.below HB.out).2.1⟩ (fun hHeld => ?_); refine with_tabW al_tab12 al_bits12 (fun HT_ HW_ => ?_)
  generalize (w11.alloc (.cells #[.int .i64 0, .slice A11 0 c11] 24)).drew = w12 at HR HA HBb HCc HXx HD HB0 HB hHeld ⊢
  refine take_ (i := 0) (N := some 96) (v := ?_) (a' := ?_) #[true, false, false, false, false, false, false, false, false, false, false, false, false, false, false, false, false, false, false, false, false, false, false, false, false, false, false, false, false, false, false, false, false, false, false, false, false, false, false, false, false, false, false] rfl rfl (take_ofW HT_.out HW_.out (by kernel_rfl)) (fun _ _ _ h => h) (Or.inl ⟨by rfl, ?_⟩) hHeld ?_ ?_
  rotate_left
  · rintro w' ⟨s0, s1, s2, s3, s4, s5, s6, s7, s8, s9, s10, s11, s12, s13⟩
    go_simp
    with_reducible rfl
  rotate_left
  · simp only [Act.put, List.setIfInBounds_toArray, List.set_cons_zero, List.set_cons_succ, i64_w, i32_w]
    rfl
  refine one_ (i := 1) (N := some 97) #[true, true, false, false, false, false, false, false, false, false, false, false, false, false, false, false, false, false, false, false, false, false, false, false, false, false, false, false, false, false, false, false, false, false, false, false, false, false, false, false, false, false, false] rfl rfl (one_of HT_.out (by kernel_rfl)) (by decide) (fun K hK => ?_)
  refine Kd.R_lit_step (Kd.int .i64) _ 3 ?hg (N := 97) ?hd (xs := ([7, 9] : List Int)) (inner := [.int .i64 7, .int .i64 9]) (ok := fun _ => True) (okp := fun _ => True) ?hr ?hp (fun _ hk => hk) trivial (Below.refl _ _) (Nat.le_refl _) (by simp) ?_; (case hd => rfl); (case hg => rfl); (case hr => first | (go_simp; done) | (go_simp; rfl)); (case hp => exact (Reps.one (show Kd.M (Kd.int .i64) _ _ _ 7 [.int .i64 7] from rfl) (Reps.one (show Kd.M (Kd.int .i64) _ _ _ 9 [.int .i64 9] from rfl) (Reps.none _ _))))
  intro v_ w114 ho hb hg_ hnew_
  clear hg_ hnew_
  obtain ⟨A97, c97, hv⟩ := Kd.R_slice ho
  have hv : v_ = .slice A97 2 c97 := hv
  subst hv
  have HL1 := Aside0.mk (show Ints w114 A97 c97 2 [7, 9] from ⟨(Kd.R_reads' ho).2.2, (Kd.R_reads' ho).2.1⟩)
  clear ho
  replace HB := Aside0.mk (HB.out.trans (hb.mono HB.out.size))
  clear hb
  refine hK.out _ _ ⟨(HA.out.below HB.out).1, (HA.out.below HB.out).2.1, (HBb.out.below HB.out).1, (HBb.out.below HB.out).2.1, (HR.out.below HB.out).1, (HR.out.below HB.out).2.1, (HCc.out.below HB.out).1, (HCc.out.below HB.out).2.1, (HD.out.below HB.out).1.1, (HD.out.below HB.out).1.2.1, (HD.out.below HB.out).1.2.2.1, (HD.out.below HB.out).1.2.2.2, (HXx.out.below HB.out).1, (HXx.out.below HB.out).2.1⟩ (fun hHeld => ?_)
  clear hK K
  refine norm_ (a' := ?_) ?_ ?_
  rotate_left
  · show Act.put _ (some 97) _ = _
    simp only [Act.put, List.setIfInBounds_toArray, List.set_cons_zero, List.set_cons_succ, i64_w, i32_w]
    rfl
  refine one_ (i := 2) (N := some 98) #[true, true, true, false, false, false, false, false, false, false, false, false, false, false, false, false, false, false, false, false, false, false, false, false, false, false, false, false, false, false, false, false, false, false, false, false, false, false, false, false, false, false, false] rfl rfl (one_of HT_.out (by kernel_rfl)) (by decide) (fun K hK => ?_)
  refine goes_ Try.func24 (by kernel_rfl) rfl #[.int .i64 4, .slice A97 2 c97] (by rfl) rfl rfl (by (try simp only [List.map_toArray, List.map_cons, List.map_nil]); first | done | rfl) ?_
  refine (c_list 4 A97 2 c97 _).mono ?_
  rintro e w115 ⟨rfl, hb⟩
  refine ⟨_, rfl, ?_⟩
  replace HB := Aside0.mk (HB.out.trans (hb.mono HB.out.size))
  replace HL1 := Aside0.mk (HL1.out.below hb)
  clear hb
  refine hK.out _ _ ⟨(HA.out.below HB.out).1, (HA.out.below HB.out).2.1, (HBb.out.below HB.out).1, (HBb.out.below HB.out).2.1, (HR.out.below HB.out).1, (HR.out.below HB.out).2.1, (HCc.out.below HB.out).1, (HCc.out.below HB.out).2.1, (HD.out.below HB.out).1.1, (HD.out.below HB.out).1.2.1, (HD.out.below HB.out).1.2.2.1, (HD.out.below HB.out).1.2.2.2, (HXx.out.below HB.out).1, (HXx.out.below HB.out).2.1⟩ (fun hHeld => ?_)
  clear hK K
  refine norm_ (a' := ?_) ?_ ?_
  rotate_left
  · show Act.put _ (some 98) _ = _
    simp only [Act.put, List.setIfInBounds_toArray, List.set_cons_zero, List.set_cons_succ, i64_w, i32_w]
    rfl
  refine one_ (i := 3) (N := some 99) #[true, true, true, true, false, false, false, false, false, false, false, false, false, false, false, false, false, false, false, false, false, false, false, false, false, false, false, false, false, false, false, false, false, false, false, false, false, false, false, false, false, false, false] rfl rfl (one_of HT_.out (by kernel_rfl)) (by decide) (fun K hK => ?_)
  refine goes_ Try.func18 (by kernel_rfl) rfl #[.agg #[.int .i64 4, .slice A2 2 c2], .agg #[.int .i64 4, .slice A97 2 c97]] (by rfl) rfl rfl (by (try simp only [List.map_toArray, List.map_cons, List.map_nil]); first | done | rfl) ?_
  refine (c_same 4 [7, 9] 2 rfl ex9 _ _ _ _ _ (HA.out.below HB.out).2.2 HL1.out).mono ?_
  rintro e w116 ⟨rfl, hb⟩
  refine ⟨_, rfl, ?_⟩
  replace HB := Aside0.mk (HB.out.trans (hb.mono HB.out.size))
  clear hb
  refine hK.out _ _ ⟨(HA.out.below HB.out).1, (HA.out.below HB.out).2.1, (HBb.out.below HB.out).1, (HBb.out.below HB.out).2.1, (HR.out.below HB.out).1, (HR.out.below HB.out).2.1, (HCc.out.below HB.out).1, (HCc.out.below HB.out).2.1, (HD.out.below HB.out).1.1, (HD.out.below HB.out).1.2.1, (HD.out.below HB.out).1.2.2.1, (HD.out.below HB.out).1.2.2.2, (HXx.out.below HB.out).1, (HXx.out.below HB.out).2.1⟩ (fun hHeld => ?_)
  clear hK K
  refine norm_ (a' := ?_) ?_ ?_
  rotate_left
  · show Act.put _ (some 99) _ = _
    simp only [Act.put, List.setIfInBounds_toArray, List.set_cons_zero, List.set_cons_succ, i64_w, i32_w]
    rfl
  clear HL1
  refine pure_ (i := 4) (N := some 100) (v := ?_) (a' := ?_) #[true, true, true, true, true, false, false, false, false, false, false, false, false, false, false, false, false, false, false, false, false, false, false, false, false, false, false, false, false, false, false, false, false, false, false, false, false, false, false, false, false, false, false] rfl rfl (any_of HT_.out (by kernel_rfl)) (fun _ _ _ h => h) (Or.inl ⟨by rfl, ?_⟩) ?_ ?_
  rotate_left
  · intro w'
    go_simp
    with_reducible rfl
  rotate_left
  · simp only [Act.put, List.setIfInBounds_toArray, List.set_cons_zero, List.set_cons_succ, i64_w, i32_w]
    rfl
  refine take_ (i := 5) (N := some 101) (v := ?_) (a' := ?_) #[true, true, true, true, true, true, false, false, false, false, false, false, false, false, false, false, false, false, false, false, false, false, false, false, false, false, false, false, false, false, false, false, false, false, false, false, false, false, false, false, false, false, false] rfl rfl (take_ofW HT_.out HW_.out (by kernel_rfl)) (fun _ _ _ h => h) (Or.inl ⟨by rfl, ?_⟩) hHeld ?_ ?_
  rotate_left
  · rintro w' ⟨s0, s1, s2, s3, s4, s5, s6, s7, s8, s9, s10, s11, s12, s13⟩
    go_simp
    with_reducible rfl
  rotate_left
  · simp only [Act.put, List.setIfInBounds_toArray, List.set_cons_zero, List.set_cons_succ, i64_w, i32_w]
    rfl
  refine take_ (i := 6) (N := some 102) (v := ?_) (a' := ?_) #[true, true, true, true, true, true, true, false, false, false, false, false, false, false, false, false, false, false, false, false, false, false, false, false, false, false, false, false, false, false, false, false, false, false, false, false, false, false, false, false, false, false, false] rfl rfl (take_ofW HT_.out HW_.out (by kernel_rfl)) (fun _ _ _ h => h) (Or.inl ⟨by rfl, ?_⟩) hHeld ?_ ?_
  rotate_left
  · rintro w' ⟨s0, s1, s2, s3, s4, s5, s6, s7, s8, s9, s10, s11, s12, s13⟩
    go_simp
    with_reducible rfl
  rotate_left
  · simp only [Act.put, List.setIfInBounds_toArray, List.set_cons_zero, List.set_cons_succ, i64_w, i32_w]
    rfl
  refine one_ (i := 7) (N := some 103) #[true, true, true, true, true, true, true, true, false, false, false, false, false, false, false, false, false, false, false, false, false, false, false, false, false, false, false, false, false, false, false, false, false, false, false, false, false, false, false, false, false, false, false] rfl rfl (one_of HT_.out (by kernel_rfl)) (by decide) (fun K hK => ?_)
  refine goes_ Try.func18 (by kernel_rfl) rfl #[.agg #[.int .i64 3, .slice A3b 2 c3b], .agg #[.int .i64 3, .slice (some ⟨w.heap.size, 0, none⟩) 2 2]] (by rfl) rfl rfl (by (try simp only [List.map_toArray, List.map_cons, List.map_nil]); first | done | rfl) ?_
  refine (c_same 3 [5, 9] 2 rfl ex10 _ _ _ _ _ (HBb.out.below HB.out).2.2 (HR.out.below HB.out).2.2).mono ?_
  rintro e w117 ⟨rfl, hb⟩
  refine ⟨_, rfl, ?_⟩
  replace HB := Aside0.mk (HB.out.trans (hb.mono HB.out.size))
  clear hb
  refine hK.out _ _ ⟨(HA.out.below HB.out).1, (HA.out.below HB.out).2.1, (HBb.out.below HB.out).1, (HBb.out.below HB.out).2.1, (HR.out.below HB.out).1, (HR.out.below HB.out).2.1, (HCc.out.below HB.out).1, (HCc.out.below HB.out).2.1, (HD.out.below HB.out).1.1, (HD.out.below HB.out).1.2.1, (HD.out.below HB.out).1.2.2.1, (HD.out.below HB.out).1.2.2.2, (HXx.out.below HB.out).1, (HXx.out.below HB.out).2.1⟩ (fun hHeld => ?_)
  clear hK K
  refine norm_ (a' := ?_) ?_ ?_
  rotate_left
  · show Act.put _ (some 103) _ = _
    simp only [Act.put, List.setIfInBounds_toArray, List.set_cons_zero, List.set_cons_succ, i64_w, i32_w]
    rfl
  refine pure_ (i := 8) (N := some 104) (v := ?_) (a' := ?_) #[true, true, true, true, true, true, true, true, true, false, false, false, false, false, false, false, false, false, false, false, false, false, false, false, false, false, false, false, false, false, false, false, false, false, false, false, false, false, false, false, false, false, false] rfl rfl (any_of HT_.out (by kernel_rfl)) (fun _ _ _ h => h) (Or.inl ⟨by rfl, ?_⟩) ?_ ?_
  rotate_left
  · intro w'
    go_simp
    with_reducible rfl
  rotate_left
  · simp only [Act.put, List.setIfInBounds_toArray, List.set_cons_zero, List.set_cons_succ, i64_w, i32_w]
    rfl
  refine pure_ (i := 9) (N := some 105) (v := ?_) (a' := ?_) #[true, true, true, true, true, true, true, true, true, true, false, false, false, false, false, false, false, false, false, false, false, false, false, false, false, false, false, false, false, false, false, false, false, false, false, false, false, false, false, false, false, false, false] rfl rfl (any_of HT_.out (by kernel_rfl)) (fun _ _ _ h => h) (Or.inl ⟨by rfl, ?_⟩) ?_ ?_
  rotate_left
  · intro w'
    go_simp
    with_reducible rfl
  rotate_left
  · simp only [Act.put, List.setIfInBounds_toArray, List.set_cons_zero, List.set_cons_succ, i64_w, i32_w]
    rfl
  refine take_ (i := 10) (N := some 106) (v := ?_) (a' := ?_) #[true, true, true, true, true, true, true, true, true, true, true, false, false, false, false, false, false, false, false, false, false, false, false, false, false, false, false, false, false, false, false, false, false, false, false, false, false, false, false, false, false, false, false] rfl rfl (take_ofW HT_.out HW_.out (by kernel_rfl)) (fun _ _ _ h => h) (Or.inl ⟨by rfl, ?_⟩) hHeld ?_ ?_
  rotate_left
  · rintro w' ⟨s0, s1, s2, s3, s4, s5, s6, s7, s8, s9, s10, s11, s12, s13⟩
    go_simp
    with_reducible rfl
  rotate_left
  · simp only [Act.put, List.setIfInBounds_toArray, List.set_cons_zero, List.set_cons_succ, i64_w, i32_w]
    rfl
  refine one_ (i := 11) (N := some 107) #[true, true, true, true, true, true, true, true, true, true, true, true, false, false, false, false, false, false, false, false, false, false, false, false, false, false, false, false, false, false, false, false, false, false, false, false, false, false, false, false, false, false, false] rfl rfl (one_of HT_.out (by kernel_rfl)) (by decide) (fun K hK => ?_)
  refine Kd.R_lit_step (Kd.int .i64) _ 3 ?hg (N := 107) ?hd (xs := ([5] : List Int)) (inner := [.int .i64 5]) (ok := fun _ => True) (okp := fun _ => True) ?hr ?hp (fun _ hk => hk) trivial (Below.refl _ _) (Nat.le_refl _) (by simp) ?_; (case hd => rfl); (case hg => rfl); (case hr => first | (go_simp; done) | (go_simp; rfl)); (case hp => exact (Reps.one (show Kd.M (Kd.int .i64) _ _ _ 5 [.int .i64 5] from rfl) (Reps.none _ _)))
  intro v_ w118 ho hb hg_ hnew_
  clear hg_ hnew_
  obtain ⟨A107, c107, hv⟩ := Kd.R_slice ho
  have hv : v_ = .slice A107 1 c107 := hv
  subst hv
  have HL2 := Aside0.mk (show Ints w118 A107 c107 1 [5] from ⟨(Kd.R_reads' ho).2.2, (Kd.R_reads' ho).2.1⟩)
  clear ho
  replace HB := Aside0.mk (HB.out.trans (hb.mono HB.out.size))
  clear hb
  refine hK.out _ _ ⟨(HA.out.below HB.out).1, (HA.out.below HB.out).2.1, (HBb.out.below HB.out).1, (HBb.out.below HB.out).2.1, (HR.out.below HB.out).1, (HR.out.below HB.out).2.1, (HCc.out.below HB.out).1, (HCc.out.below HB.out).2.1, (HD.out.below HB.out).1.1, (HD.out.below HB.out).1.2.1, (HD.out.below HB.out).1.2.2.1, (HD.out.below HB.out).1.2.2.2, (HXx.out.below HB.out).1, (HXx.out.below HB.out).2.1⟩ (fun hHeld => ?_)
  clear hK K
  refine norm_ (a' := ?_) ?_ ?_
  rotate_left
  · show Act.put _ (some 107) _ = _
    simp only [Act.put, List.setIfInBounds_toArray, List.set_cons_zero, List.set_cons_succ, i64_w, i32_w]
    rfl
  refine one_ (i := 12) (N := some 108) #[true, true, true, true, true, true, true, true, true, true, true, true, true, false, false, false, false, false, false, false, false, false, false, false, false, false, false, false, false, false, false, false, false, false, false, false, false, false, false, false, false, false, false] rfl rfl (one_of HT_.out (by kernel_rfl)) (by decide) (fun K hK => ?_)
  refine goes_ Try.func24 (by kernel_rfl) rfl #[.int .i64 4, .slice A107 1 c107] (by rfl) rfl rfl (by (try simp only [List.map_toArray, List.map_cons, List.map_nil]); first | done | rfl) ?_
  refine (c_list 4 A107 1 c107 _).mono ?_
  rintro e w119 ⟨rfl, hb⟩
  refine ⟨_, rfl, ?_⟩
  replace HB := Aside0.mk (HB.out.trans (hb.mono HB.out.size))
  replace HL2 := Aside0.mk (HL2.out.below hb)
  clear hb
  refine hK.out _ _ ⟨(HA.out.below HB.out).1, (HA.out.below HB.out).2.1, (HBb.out.below HB.out).1, (HBb.out.below HB.out).2.1, (HR.out.below HB.out).1, (HR.out.below HB.out).2.1, (HCc.out.below HB.out).1, (HCc.out.below HB.out).2.1, (HD.out.below HB.out).1.1, (HD.out.below HB.out).1.2.1, (HD.out.below HB.out).1.2.2.1, (HD.out.below HB.out).1.2.2.2, (HXx.out.below HB.out).1, (HXx.out.below HB.out).2.1⟩ (fun hHeld => ?_)
  clear hK K
  refine norm_ (a' := ?_) ?_ ?_
  rotate_left
  · show Act.put _ (some 108) _ = _
    simp only [Act.put, List.setIfInBounds_toArray, List.set_cons_zero, List.set_cons_succ, i64_w, i32_w]
    rfl
  refine one_ (i := 13) (N := some 109) #[true, true, true, true, true, true, true, true, true, true, true, true, true, true, false, false, false, false, false, false, false, false, false, false, false, false, false, false, false, false, false, false, false, false, false, false, false, false, false, false, false, false, false] rfl rfl (one_of HT_.out (by kernel_rfl)) (by decide) (fun K hK => ?_)
  refine goes_ Try.func18 (by kernel_rfl) rfl #[.agg #[.int .i64 4, .slice A4 1 c4], .agg #[.int .i64 4, .slice A107 1 c107]] (by rfl) rfl rfl (by (try simp only [List.map_toArray, List.map_cons, List.map_nil]); first | done | rfl) ?_
  refine (c_same 4 [5] 1 rfl ex11 _ _ _ _ _ (HCc.out.below HB.out).2.2 HL2.out).mono ?_
  rintro e w120 ⟨rfl, hb⟩
  refine ⟨_, rfl, ?_⟩
  replace HB := Aside0.mk (HB.out.trans (hb.mono HB.out.size))
  clear hb
  refine hK.out _ _ ⟨(HA.out.below HB.out).1, (HA.out.below HB.out).2.1, (HBb.out.below HB.out).1, (HBb.out.below HB.out).2.1, (HR.out.below HB.out).1, (HR.out.below HB.out).2.1, (HCc.out.below HB.out).1, (HCc.out.below HB.out).2.1, (HD.out.below HB.out).1.1, (HD.out.below HB.out).1.2.1, (HD.out.below HB.out).1.2.2.1, (HD.out.below HB.out).1.2.2.2, (HXx.out.below HB.out).1, (HXx.out.below HB.out).2.1⟩ (fun hHeld => ?_)
  clear hK K
  refine norm_ (a' := ?_) ?_ ?_
  rotate_left
  · show Act.put _ (some 109) _ = _
    simp only [Act.put, List.setIfInBounds_toArray, List.set_cons_zero, List.set_cons_succ, i64_w, i32_w]
    rfl
  clear HL2
  refine pure_ (i := 14) (N := some 110) (v := ?_) (a' := ?_) #[true, true, true, true, true, true, true, true, true, true, true, true, true, true, true, false, false, false, false, false, false, false, false, false, false, false, false, false, false, false, false, false, false, false, false, false, false, false, false, false, false, false, false] rfl rfl (any_of HT_.out (by kernel_rfl)) (fun _ _ _ h => h) (Or.inl ⟨by rfl, ?_⟩) ?_ ?_
  rotate_left
  · intro w'
    go_simp
    with_reducible rfl
  rotate_left
  · simp only [Act.put, List.setIfInBounds_toArray, List.set_cons_zero, List.set_cons_succ, i64_w, i32_w]
    rfl
  refine pure_ (i := 15) (N := some 111) (v := ?_) (a' := ?_) #[true, true, true, true, true, true, true, true, true, true, true, true, true, true, true, true, false, false, false, false, false, false, false, false, false, false, false, false, false, false, false, false, false, false, false, false, false, false, false, false, false, false, false] rfl rfl (any_of HT_.out (by kernel_rfl)) (fun _ _ _ h => h) (Or.inl ⟨by rfl, ?_⟩) ?_ ?_
  rotate_left
  · intro w'
    go_simp
    with_reducible rfl
  rotate_left
  · simp only [Act.put, List.setIfInBounds_toArray, List.set_cons_zero, List.set_cons_succ, i64_w, i32_w]
    rfl
  refine take_ (i := 16) (N := some 112) (v := ?_) (a' := ?_) #[true, true, true, true, true, true, true, true, true, true, true, true, true, true, true, true, true, false, false, false, false, false, false, false, false, false, false, false, false, false, false, false, false, false, false, false, false, false, false, false, false, false, false] rfl rfl (take_ofW HT_.out HW_.out (by kernel_rfl)) (fun _ _ _ h => h) (Or.inl ⟨by rfl, ?_⟩) hHeld ?_ ?_
  rotate_left
  · rintro w' ⟨s0, s1, s2, s3, s4, s5, s6, s7, s8, s9, s10, s11, s12, s13⟩
    go_simp
    with_reducible rfl
  rotate_left
  · simp only [Act.put, List.setIfInBounds_toArray, List.set_cons_zero, List.set_cons_succ, i64_w, i32_w]
    rfl
  refine join_ (σ := Option Addr × Nat × Option Addr × Nat) 24 #[true, true, true, true, true, true, true, true, true, true, true, true, true, true, true, true, true, true, true, false, false, false, false, false, false, false, false, false, false, false, false, false, false, false, false, false, false, false, false, false, false, false, false] (fun s_ => [(113, .slice s_.1 1 s_.2.1), (114, .slice s_.2.2.1 1 s_.2.2.2)]) (fun s_ w' => Below w12.heap.size w12 w' ∧ Ints w' s_.1 s_.2.1 1 [2] ∧ Ints w' s_.2.2.1 s_.2.2.2 1 [5]) ?_ ?_
  rotate_left
  · intro hCont
    refine two_ (i := 17) (j := 18) (Ni := some 113) (Nj := some 114) #[true, true, true, true, true, true, true, true, true, true, true, true, true, true, true, true, true, true, false, false, false, false, false, false, false, false, false, false, false, false, false, false, false, false, false, false, false, false, false, false, false, false, false] #[true, true, true, true, true, true, true, true, true, true, true, true, true, true, true, true, true, false, true, false, false, false, false, false, false, false, false, false, false, false, false, false, false, false, false, false, false, false, false, false, false, false, false] rfl rfl rfl rfl (two_of HT_.out (by kernel_rfl)) (by decide) (by decide) (fun K hK => ?_) (fun K hK => ?_)
    · refine Kd.R_lit_step (Kd.int .i64) _ 3 ?hg (N := 113) ?hd (xs := ([2] : List Int)) (inner := [.int .i64 2]) (ok := fun _ => True) (okp := fun _ => True) ?hr ?hp (fun _ hk => hk) trivial (Below.refl _ _) (Nat.le_refl _) (by simp) ?_; (case hd => rfl); (case hg => rfl); (case hr => first | (go_simp; done) | (go_simp; rfl)); (case hp => exact (Reps.one (show Kd.M (Kd.int .i64) _ _ _ 2 [.int .i64 2] from rfl) (Reps.none _ _)))
      intro v_ w121 ho hb hg_ hnew_
      clear hg_ hnew_
      obtain ⟨A113, c113, hv⟩ := Kd.R_slice ho
      have hv : v_ = .slice A113 1 c113 := hv
      subst hv
      have HL3 := Aside0.mk (show Ints w121 A113 c113 1 [2] from ⟨(Kd.R_reads' ho).2.2, (Kd.R_reads' ho).2.1⟩)
      clear ho
      replace HB := Aside0.mk (HB.out.trans (hb.mono HB.out.size))
      clear hb
      refine hK.out _ _ ⟨(HA.out.below HB.out).1, (HA.out.below HB.out).2.1, (HBb.out.below HB.out).1, (HBb.out.below HB.out).2.1, (HR.out.below HB.out).1, (HR.out.below HB.out).2.1, (HCc.out.below HB.out).1, (HCc.out.below HB.out).2.1, (HD.out.below HB.out).1.1, (HD.out.below HB.out).1.2.1, (HD.out.below HB.out).1.2.2.1, (HD.out.below HB.out).1.2.2.2, (HXx.out.below HB.out).1, (HXx.out.below HB.out).2.1⟩ (fun hHeld => ?_)
      clear hK K
      refine norm_ (a' := ?_) ?_ ?_
      rotate_left
      · show Act.put _ (some 113) _ = _
        simp only [Act.put, List.setIfInBounds_toArray, List.set_cons_zero, List.set_cons_succ, i64_w, i32_w]
        rfl
      refine one_ (i := 18) (N := some 114) #[true, true, true, true, true, true, true, true, true, true, true, true, true, true, true, true, true, true, true, false, false, false, false, false, false, false, false, false, false, false, false, false, false, false, false, false, false, false, false, false, false, false, false] rfl rfl (one_of HT_.out (by kernel_rfl)) (by decide) (fun K hK => ?_)
      refine Kd.R_lit_step (Kd.int .i64) _ 3 ?hg (N := 114) ?hd (xs := ([5] : List Int)) (inner := [.int .i64 5]) (ok := fun _ => True) (okp := fun _ => True) ?hr ?hp (fun _ hk => hk) trivial (Below.refl _ _) (Nat.le_refl _) (by simp) ?_; (case hd => rfl); (case hg => rfl); (case hr => first | (go_simp; done) | (go_simp; rfl)); (case hp => exact (Reps.one (show Kd.M (Kd.int .i64) _ _ _ 5 [.int .i64 5] from rfl) (Reps.none _ _)))
      intro v_ w122 ho hb hg_ hnew_
      clear hg_ hnew_
      obtain ⟨A114, c114, hv⟩ := Kd.R_slice ho
      have hv : v_ = .slice A114 1 c114 := hv
      subst hv
      have HL4 := Aside0.mk (show Ints w122 A114 c114 1 [5] from ⟨(Kd.R_reads' ho).2.2, (Kd.R_reads' ho).2.1⟩)
      clear ho
      replace HB := Aside0.mk (HB.out.trans (hb.mono HB.out.size))
      replace HL3 := Aside0.mk (HL3.out.below hb)
      clear hb
      refine hK.out _ _ ⟨(HA.out.below HB.out).1, (HA.out.below HB.out).2.1, (HBb.out.below HB.out).1, (HBb.out.below HB.out).2.1, (HR.out.below HB.out).1, (HR.out.below HB.out).2.1, (HCc.out.below HB.out).1, (HCc.out.below HB.out).2.1, (HD.out.below HB.out).1.1, (HD.out.below HB.out).1.2.1, (HD.out.below HB.out).1.2.2.1, (HD.out.below HB.out).1.2.2.2, (HXx.out.below HB.out).1, (HXx.out.below HB.out).2.1⟩ (fun hHeld => ?_)
      clear hK K
      refine norm_ (a' := ?_) ?_ ?_
      rotate_left
      · show Act.put _ (some 114) _ = _
        simp only [Act.put, List.setIfInBounds_toArray, List.set_cons_zero, List.set_cons_succ, i64_w, i32_w]
        rfl
      exact norm_ (by simp only [putAll, Act.put, List.setIfInBounds_toArray, List.set_cons_zero, List.set_cons_succ]) (hCont (A113, c113, A114, c114) _ ⟨HB.out, HL3.out, HL4.out⟩)
    · refine Kd.R_lit_step (Kd.int .i64) _ 3 ?hg (N := 114) ?hd (xs := ([5] : List Int)) (inner := [.int .i64 5]) (ok := fun _ => True) (okp := fun _ => True) ?hr ?hp (fun _ hk => hk) trivial (Below.refl _ _) (Nat.le_refl _) (by simp) ?_; (case hd => rfl); (case hg => rfl); (case hr => first | (go_simp; done) | (go_simp; rfl)); (case hp => exact (Reps.one (show Kd.M (Kd.int .i64) _ _ _ 5 [.int .i64 5] from rfl) (Reps.none _ _)))
      intro v_ w123 ho hb hg_ hnew_
      clear hg_ hnew_
      obtain ⟨A114, c114, hv⟩ := Kd.R_slice ho
      have hv : v_ = .slice A114 1 c114 := hv
      subst hv
      have HL4 := Aside0.mk (show Ints w123 A114 c114 1 [5] from ⟨(Kd.R_reads' ho).2.2, (Kd.R_reads' ho).2.1⟩)
      clear ho
      replace HB := Aside0.mk (HB.out.trans (hb.mono HB.out.size))
      clear hb
      refine hK.out _ _ ⟨(HA.out.below HB.out).1, (HA.out.below HB.out).2.1, (HBb.out.below HB.out).1, (HBb.out.below HB.out).2.1, (HR.out.below HB.out).1, (HR.out.below HB.out).2.1, (HCc.out.below HB.out).1, (HCc.out.below HB.out).2.1, (HD.out.below HB.out).1.1, (HD.out.below HB.out).1.2.1, (HD.out.below HB.out).1.2.2.1, (HD.out.below HB.out).1.2.2.2, (HXx.out.below HB.out).1, (HXx.out.below HB.out).2.1⟩ (fun hHeld => ?_)
      clear hK K
      refine norm_ (a' := ?_) ?_ ?_
      rotate_left
      · show Act.put _ (some 114) _ = _
        simp only [Act.put, List.setIfInBounds_toArray, List.set_cons_zero, List.set_cons_succ, i64_w, i32_w]
        rfl
      refine one_ (i := 17) (N := some 113) #[true, true, true, true, true, true, true, true, true, true, true, true, true, true, true, true, true, true, true, false, false, false, false, false, false, false, false, false, false, false, false, false, false, false, false, false, false, false, false, false, false, false, false] rfl rfl (one_of HT_.out (by kernel_rfl)) (by decide) (fun K hK => ?_)
      refine Kd.R_lit_step (Kd.int .i64) _ 3 ?hg (N := 113) ?hd (xs := ([2] : List Int)) (inner := [.int .i64 2]) (ok := fun _ => True) (okp := fun _ => True) ?hr ?hp (fun _ hk => hk) trivial (Below.refl _ _) (Nat.le_refl _) (by simp) ?_; (case hd => rfl); (case hg => rfl); (case hr => first | (go_simp; done) | (go_simp; rfl)); (case hp => exact (Reps.one (show Kd.M (Kd.int .i64) _ _ _ 2 [.int .i64 2] from rfl) (Reps.none _ _)))
      intro v_ w124 ho hb hg_ hnew_
      clear hg_ hnew_
      obtain ⟨A113, c113, hv⟩ := Kd.R_slice ho
      have hv : v_ = .slice A113 1 c113 := hv
      subst hv
      have HL3 := Aside0.mk (show Ints w124 A113 c113 1 [2] from ⟨(Kd.R_reads' ho).2.2, (Kd.R_reads' ho).2.1⟩)
      clear ho
      replace HB := Aside0.mk (HB.out.trans (hb.mono HB.out.size))
      replace HL4 := Aside0.mk (HL4.out.below hb)
      clear hb
      refine hK.out _ _ ⟨(HA.out.below HB.out).1, (HA.out.below HB.out).2.1, (HBb.out.below HB.out).1, (HBb.out.below HB.out).2.1, (HR.out.below HB.out).1, (HR.out.below HB.out).2.1, (HCc.out.below HB.out).1, (HCc.out.below HB.out).2.1, (HD.out.below HB.out).1.1, (HD.out.below HB.out).1.2.1, (HD.out.below HB.out).1.2.2.1, (HD.out.below HB.out).1.2.2.2, (HXx.out.below HB.out).1, (HXx.out.below HB.out).2.1⟩ (fun hHeld => ?_)
      clear hK K
      refine norm_ (a' := ?_) ?_ ?_
      rotate_left
      · show Act.put _ (some 113) _ = _
        simp only [Act.put, List.setIfInBounds_toArray, List.set_cons_zero, List.set_cons_succ, i64_w, i32_w]
        rfl
      exact norm_ (by simp only [putAll, Act.put, List.setIfInBounds_toArray, List.set_cons_zero, List.set_cons_succ]) (hCont (A113, c113, A114, c114) _ ⟨HB.out, HL3.out, HL4.out⟩)
  rintro ⟨A113, c113, A114, c114⟩ w13 ⟨hB, hL3, hL4⟩
  dsimp only at hB hL3 hL4
  replace HB := Aside0.mk hB
  have HL3 := Aside0.mk hL3
  have HL4 := Aside0.mk hL4
  clear hB hL3 hL4 hHeld
  have hHeld : w13.cell? ⟨w2.heap.size, 0, none⟩ = some (.int .i64 4) ∧ w13.cell? ⟨w2.heap.size, 1, none⟩ = some (.slice (A2) 2 c2) ∧ w13.cell? ⟨w3.heap.size, 0, none⟩ = some (.int .i64 3) ∧ w13.cell? ⟨w3.heap.size, 1, none⟩ = some (.slice (A3b) 2 c3b) ∧ w13.cell? ⟨w1.heap.size, 0, none⟩ = some (.int .i64 3) ∧ w13.cell? ⟨w1.heap.size, 1, none⟩ = some (.slice (some ⟨w.heap.size, 0, none⟩) 2 2) ∧ w13.cell? ⟨w4.heap.size, 0, none⟩ = some (.int .i64 4) ∧ w13.cell? ⟨w4.heap.size, 1, none⟩ = some (.slice (A4) 1 c4) ∧ w13.cell? ⟨g8, 0, none⟩ = some (.int .i64 3) ∧ w13.cell? ⟨g8, 1, none⟩ = some (.int .i64 6) ∧ w13.cell? ⟨g8, 2, none⟩ = some (.slice A3 1 c3) ∧ w13.cell? ⟨g8, 3, none⟩ = some (.slice A5 1 c5) ∧ w13.cell? ⟨w8.heap.size, 0, none⟩ = some (.int .i64 6) ∧ w13.cell? ⟨w8.heap.size, 1, none⟩ = some (.slice A8 2 c8) := ⟨(HA.out.below HB.out).1, (HA.out.below HB.out).2.1, (HBb.out.below HB.out).1, (HBb.out.below HB.out).2.1, (HR.out.below HB.out).1, (HR.out.below HB.out).2.1, (HCc.out.below HB.out).1, (HCc.out.below HB.out).2.1, (HD.out.below HB.out).1.1, (HD.out.below HB.out).1.2.1, (HD.out.below HB.out).1.2.2.1, (HD.out.below HB.out).1.2.2.2, (HXx.out.below HB.out).1, (HXx.out.below HB.out).2.1⟩
  refine norm_ (a' := ?_) ?_ ?_
  rotate_left
  · simp only [putAll, Act.put, List.setIfInBounds_toArray, List.set_cons_zero, List.set_cons_succ]
    rfl
  refine pure_ (i := 19) (N := some 115) (v := ?_) (a' := ?_) #[true, true, true, true, true, true, true, true, true, true, true, true, true, true, true, true, true, true, true, true, false, false, false, false, false, false, false, false, false, false, false, false, false, false, false, false, false, false, false, false, false, false, false] rfl rfl (any_of HT_.out (by kernel_rfl)) (fun _ _ _ h => h) (Or.inl ⟨by rfl, ?_⟩) ?_ ?_
  rotate_left
  · intro w'
    go_simp
    with_reducible rfl
  rotate_left
  · simp only [Act.put, List.setIfInBounds_toArray, List.set_cons_zero, List.set_cons_succ, i64_w, i32_w]
    rfl
  refine one_ (i := 20) (N := some 116) #[true, true, true, true, true, true, true, true, true, true, true, true, true, true, true, true, true, true, true, true, true, false, false, false, false, false, false, false, false, false, false, false, false, false, false, false, false, false, false, false, false, false, false] rfl rfl (one_of HT_.out (by kernel_rfl)) (by decide) (fun K hK => ?_)
  refine goes_ Try.func21 (by kernel_rfl) rfl #[.agg #[.int .i64 3, .int .i64 6, .slice A3 1 c3, .slice A5 1 c5], .agg #[.int .i64 3, .int .i64 6, .slice A113 1 c113, .slice A114 1 c114]] (by rfl) rfl rfl (by (try simp only [List.map_toArray, List.map_cons, List.map_nil]); first | done | rfl) ?_
  refine (c_samer _ _ _ _ _ _ _ _ _ (HD.out.below HB.out).2.1 (HD.out.below HB.out).2.2 HL3.out HL4.out).mono ?_
  rintro e w125 ⟨rfl, hb⟩
  refine ⟨_, rfl, ?_⟩
  replace HB := Aside0.mk (HB.out.trans (hb.mono HB.out.size))
  clear hb
  refine hK.out _ _ ⟨(HA.out.below HB.out).1, (HA.out.below HB.out).2.1, (HBb.out.below HB.out).1, (HBb.out.below HB.out).2.1, (HR.out.below HB.out).1, (HR.out.below HB.out).2.1, (HCc.out.below HB.out).1, (HCc.out.below HB.out).2.1, (HD.out.below HB.out).1.1, (HD.out.below HB.out).1.2.1, (HD.out.below HB.out).1.2.2.1, (HD.out.below HB.out).1.2.2.2, (HXx.out.below HB.out).1, (HXx.out.below HB.out).2.1⟩ (fun hHeld => ?_)
  clear hK K
  refine norm_ (a' := ?_) ?_ ?_
  rotate_left
  · show Act.put _ (some 116) _ = _
    simp only [Act.put, List.setIfInBounds_toArray, List.set_cons_zero, List.set_cons_succ, i64_w, i32_w]
    rfl
  clear HL3 HL4
  refine pure_ (i := 21) (N := some 117) (v := ?_) (a' := ?_) #[true, true, true, true, true, true, true, true, true, true, true, true, true, true, true, true, true, true, true, true, true, true, false, false, false, false, false, false, false, false, false, false, false, false, false, false, false, false, false, false, false, false, false] rfl rfl (any_of HT_.out (by kernel_rfl)) (fun _ _ _ h => h) (Or.inl ⟨by rfl, ?_⟩) ?_ ?_
  rotate_left
  · intro w'
    go_simp
    with_reducible rfl
  rotate_left
  · simp only [Act.put, List.setIfInBounds_toArray, List.set_cons_zero, List.set_cons_succ, i64_w, i32_w]
    rfl
  refine pure_ (i := 22) (N := some 118) (v := ?_) (a' := ?_) #[true, true, true, true, true, true, true, true, true, true, true, true, true, true, true, true, true, true, true, true, true, true, true, false, false, false, false, false, false, false, false, false, false, false, false, false, false, false, false, false, false, false, false] rfl rfl (any_of HT_.out (by kernel_rfl)) (fun _ _ _ h => h) (Or.inl ⟨by rfl, ?_⟩) ?_ ?_
  rotate_left
  · intro w'
    go_simp
    with_reducible rfl
  rotate_left
  · simp only [Act.put, List.setIfInBounds_toArray, List.set_cons_zero, List.set_cons_succ, i64_w, i32_w]
    rfl
  refine take_ (i := 23) (N := some 119) (v := ?_) (a' := ?_) #[true, true, true, true, true, true, true, true, true, true, true, true, true, true, true, true, true, true, true, true, true, true, true, true, false, false, false, false, false, false, false, false, false, false, false, false, false, false, false, false, false, false, false] rfl rfl (take_ofW HT_.out HW_.out (by kernel_rfl)) (fun _ _ _ h => h) (Or.inl ⟨by rfl, ?_⟩) hHeld ?_ ?_
  rotate_left
  · rintro w' ⟨s0, s1, s2, s3, s4, s5, s6, s7, s8, s9, s10, s11, s12, s13⟩
    go_simp
    with_reducible rfl
  rotate_left
  · simp only [Act.put, List.setIfInBounds_toArray, List.set_cons_zero, List.set_cons_succ, i64_w, i32_w]
    rfl
  refine one_ (i := 24) (N := some 120) #[true, true, true, true, true, true, true, true, true, true, true, true, true, true, true, true, true, true, true, true, true, true, true, true, true, false, false, false, false, false, false, false, false, false, false, false, false, false, false, false, false, false, false] rfl rfl (one_of HT_.out (by kernel_rfl)) (by decide) (fun K hK => ?_)
  refine Kd.R_lit_step (Kd.int .i64) _ 3 ?hg (N := 120) ?hd (xs := ([2, 9] : List Int)) (inner := [.int .i64 2, .int .i64 9]) (ok := fun _ => True) (okp := fun _ => True) ?hr ?hp (fun _ hk => hk) trivial (Below.refl _ _) (Nat.le_refl _) (by simp) ?_; (case hd => rfl); (case hg => rfl); (case hr => first | (go_simp; done) | (go_simp; rfl)); (case hp => exact (Reps.one (show Kd.M (Kd.int .i64) _ _ _ 2 [.int .i64 2] from rfl) (Reps.one (show Kd.M (Kd.int .i64) _ _ _ 9 [.int .i64 9] from rfl) (Reps.none _ _))))
  intro v_ w126 ho hb hg_ hnew_
  clear hg_ hnew_
  obtain ⟨A120, c120, hv⟩ := Kd.R_slice ho
  have hv : v_ = .slice A120 2 c120 := hv
  subst hv
  have HL5 := Aside0.mk (show Ints w126 A120 c120 2 [2, 9] from ⟨(Kd.R_reads' ho).2.2, (Kd.R_reads' ho).2.1⟩)
  clear ho
  replace HB := Aside0.mk (HB.out.trans (hb.mono HB.out.size))
  clear hb
  refine hK.out _ _ ⟨(HA.out.below HB.out).1, (HA.out.below HB.out).2.1, (HBb.out.below HB.out).1, (HBb.out.below HB.out).2.1, (HR.out.below HB.out).1, (HR.out.below HB.out).2.1, (HCc.out.below HB.out).1, (HCc.out.below HB.out).2.1, (HD.out.below HB.out).1.1, (HD.out.below HB.out).1.2.1, (HD.out.below HB.out).1.2.2.1, (HD.out.below HB.out).1.2.2.2, (HXx.out.below HB.out).1, (HXx.out.below HB.out).2.1⟩ (fun hHeld => ?_)
  clear hK K
  refine norm_ (a' := ?_) ?_ ?_
  rotate_left
  · show Act.put _ (some 120) _ = _
    simp only [Act.put, List.setIfInBounds_toArray, List.set_cons_zero, List.set_cons_succ, i64_w, i32_w]
    rfl
  refine one_ (i := 25) (N := some 121) #[true, true, true, true, true, true, true, true, true, true, true, true, true, true, true, true, true, true, true, true, true, true, true, true, true, true, false, false, false, false, false, false, false, false, false, false, false, false, false, false, false, false, false] rfl rfl (one_of HT_.out (by kernel_rfl)) (by decide) (fun K hK => ?_)
  refine goes_ Try.func24 (by kernel_rfl) rfl #[.int .i64 6, .slice A120 2 c120] (by rfl) rfl rfl (by (try simp only [List.map_toArray, List.map_cons, List.map_nil]); first | done | rfl) ?_
  refine (c_list 6 A120 2 c120 _).mono ?_
  rintro e w127 ⟨rfl, hb⟩
  refine ⟨_, rfl, ?_⟩
  replace HB := Aside0.mk (HB.out.trans (hb.mono HB.out.size))
  replace HL5 := Aside0.mk (HL5.out.below hb)
  clear hb
  refine hK.out _ _ ⟨(HA.out.below HB.out).1, (HA.out.below HB.out).2.1, (HBb.out.below HB.out).1, (HBb.out.below HB.out).2.1, (HR.out.below HB.out).1, (HR.out.below HB.out).2.1, (HCc.out.below HB.out).1, (HCc.out.below HB.out).2.1, (HD.out.below HB.out).1.1, (HD.out.below HB.out).1.2.1, (HD.out.below HB.out).1.2.2.1, (HD.out.below HB.out).1.2.2.2, (HXx.out.below HB.out).1, (HXx.out.below HB.out).2.1⟩ (fun hHeld => ?_)
  clear hK K
  refine norm_ (a' := ?_) ?_ ?_
  rotate_left
  · show Act.put _ (some 121) _ = _
    simp only [Act.put, List.setIfInBounds_toArray, List.set_cons_zero, List.set_cons_succ, i64_w, i32_w]
    rfl
  refine one_ (i := 26) (N := some 122) #[true, true, true, true, true, true, true, true, true, true, true, true, true, true, true, true, true, true, true, true, true, true, true, true, true, true, true, false, false, false, false, false, false, false, false, false, false, false, false, false, false, false, false] rfl rfl (one_of HT_.out (by kernel_rfl)) (by decide) (fun K hK => ?_)
  refine goes_ Try.func18 (by kernel_rfl) rfl #[.agg #[.int .i64 6, .slice A8 2 c8], .agg #[.int .i64 6, .slice A120 2 c120]] (by rfl) rfl rfl (by (try simp only [List.map_toArray, List.map_cons, List.map_nil]); first | done | rfl) ?_
  refine (c_same 6 [2, 9] 2 rfl ex13 _ _ _ _ _ (HXx.out.below HB.out).2.2 HL5.out).mono ?_
  rintro e w128 ⟨rfl, hb⟩
  refine ⟨_, rfl, ?_⟩
  replace HB := Aside0.mk (HB.out.trans (hb.mono HB.out.size))
  clear hb
  refine hK.out _ _ ⟨(HA.out.below HB.out).1, (HA.out.below HB.out).2.1, (HBb.out.below HB.out).1, (HBb.out.below HB.out).2.1, (HR.out.below HB.out).1, (HR.out.below HB.out).2.1, (HCc.out.below HB.out).1, (HCc.out.below HB.out).2.1, (HD.out.below HB.out).1.1, (HD.out.below HB.out).1.2.1, (HD.out.below HB.out).1.2.2.1, (HD.out.below HB.out).1.2.2.2, (HXx.out.below HB.out).1, (HXx.out.below HB.out).2.1⟩ (fun hHeld => ?_)
  clear hK K
  refine norm_ (a' := ?_) ?_ ?_
  rotate_left
  · show Act.put _ (some 122) _ = _
    simp only [Act.put, List.setIfInBounds_toArray, List.set_cons_zero, List.set_cons_succ, i64_w, i32_w]
    rfl
  clear HL5
  refine pure_ (i := 27) (N := some 123) (v := ?_) (a' := ?_) #[true, true, true, true, true, true, true, true, true, true, true, true, true, true, true, true, true, true, true, true, true, true, true, true, true, true, true, true, false, false, false, false, false, false, false, false, false, false, false, false, false, false, false] rfl rfl (any_of HT_.out (by kernel_rfl)) (fun _ _ _ h => h) (Or.inl ⟨by rfl, ?_⟩) ?_ ?_
  rotate_left
  · intro w'
    go_simp
    with_reducible rfl
  rotate_left
  · simp only [Act.put, List.setIfInBounds_toArray, List.set_cons_zero, List.set_cons_succ, i64_w, i32_w]
    rfl
  refine pure_ (i := 28) (N := some 124) (v := ?_) (a' := ?_) #[true, true, true, true, true, true, true, true, true, true, true, true, true, true, true, true, true, true, true, true, true, true, true, true, true, true, true, true, true, false, false, false, false, false, false, false, false, false, false, false, false, false, false] rfl rfl (any_of HT_.out (by kernel_rfl)) (fun _ _ _ h => h) (Or.inl ⟨by rfl, ?_⟩) ?_ ?_
  rotate_left
  · intro w'
    go_simp
    with_reducible rfl
  rotate_left
  · simp only [Act.put, List.setIfInBounds_toArray, List.set_cons_zero, List.set_cons_succ, i64_w, i32_w]
    rfl
  refine take_ (i := 29) (N := some 125) (v := ?_) (a' := ?_) #[true, true, true, true, true, true, true, true, true, true, true, true, true, true, true, true, true, true, true, true, true, true, true, true, true, true, true, true, true, true, false, false, false, false, false, false, false, false, false, false, false, false, false] rfl rfl (take_ofW HT_.out HW_.out (by kernel_rfl)) (fun _ _ _ h => h) (Or.inl ⟨by rfl, ?_⟩) hHeld ?_ ?_
  rotate_left
  · rintro w' ⟨s0, s1, s2, s3, s4, s5, s6, s7, s8, s9, s10, s11, s12, s13⟩
    go_simp
    with_reducible rfl
  rotate_left
  · simp only [Act.put, List.setIfInBounds_toArray, List.set_cons_zero, List.set_cons_succ, i64_w, i32_w]
    rfl
  refine one_ (i := 30) (N := some 126) #[true, true, true, true, true, true, true, true, true, true, true, true, true, true, true, true, true, true, true, true, true, true, true, true, true, true, true, true, true, true, true, false, false, false, false, false, false, false, false, false, false, false, false] rfl rfl (one_of HT_.out (by kernel_rfl)) (by decide) (fun K hK => ?_)
  refine goes_ Try.func13 (by kernel_rfl) rfl #[.agg #[.int .i64 3, .slice (some ⟨w.heap.size, 0, none⟩) 2 2], .int .i64 9] (by rfl) rfl rfl (by (try simp only [List.map_toArray, List.map_cons, List.map_nil]); first | done | rfl) ?_
  refine (c_has 9 true ex14 _ _ _ (HR.out.below HB.out).2.2).mono ?_
  rintro e w129 ⟨rfl, hb⟩
  refine ⟨_, rfl, ?_⟩
  replace HB := Aside0.mk (HB.out.trans (hb.mono HB.out.size))
  clear hb
  refine hK.out _ _ ⟨(HA.out.below HB.out).1, (HA.out.below HB.out).2.1, (HBb.out.below HB.out).1, (HBb.out.below HB.out).2.1, (HR.out.below HB.out).1, (HR.out.below HB.out).2.1, (HCc.out.below HB.out).1, (HCc.out.below HB.out).2.1, (HD.out.below HB.out).1.1, (HD.out.below HB.out).1.2.1, (HD.out.below HB.out).1.2.2.1, (HD.out.below HB.out).1.2.2.2, (HXx.out.below HB.out).1, (HXx.out.below HB.out).2.1⟩ (fun hHeld => ?_)
  clear hK K
  refine norm_ (a' := ?_) ?_ ?_
  rotate_left
  · show Act.put _ (some 126) _ = _
    simp only [Act.put, List.setIfInBounds_toArray, List.set_cons_zero, List.set_cons_succ, i64_w, i32_w]
    rfl
  refine pure_ (i := 31) (N := some 127) (v := ?_) (a' := ?_) #[true, true, true, true, true, true, true, true, true, true, true, true, true, true, true, true, true, true, true, true, true, true, true, true, true, true, true, true, true, true, true, true, false, false, false, false, false, false, false, false, false, false, false] rfl rfl (any_of HT_.out (by kernel_rfl)) (fun _ _ _ h => h) (Or.inl ⟨by rfl, ?_⟩) ?_ ?_
  rotate_left
  · intro w'
    go_simp
    with_reducible rfl
  rotate_left
  · simp only [Act.put, List.setIfInBounds_toArray, List.set_cons_zero, List.set_cons_succ, i64_w, i32_w]
    rfl
  refine pure_ (i := 32) (N := some 128) (v := ?_) (a' := ?_) #[true, true, true, true, true, true, true, true, true, true, true, true, true, true, true, true, true, true, true, true, true, true, true, true, true, true, true, true, true, true, true, true, true, false, false, false, false, false, false, false, false, false, false] rfl rfl (any_of HT_.out (by kernel_rfl)) (fun _ _ _ h => h) (Or.inl ⟨by rfl, ?_⟩) ?_ ?_
  rotate_left
  · intro w'
    go_simp
    with_reducible rfl
  rotate_left
  · simp only [Act.put, List.setIfInBounds_toArray, List.set_cons_zero, List.set_cons_succ, i64_w, i32_w]
    rfl
  refine take_ (i := 33) (N := some 129) (v := ?_) (a' := ?_) #[true, true, true, true, true, true, true, true, true, true, true, true, true, true, true, true, true, true, true, true, true, true, true, true, true, true, true, true, true, true, true, true, true, true, false, false, false, false, false, false, false, false, false] rfl rfl (take_ofW HT_.out HW_.out (by kernel_rfl)) (fun _ _ _ h => h) (Or.inl ⟨by rfl, ?_⟩) hHeld ?_ ?_
  rotate_left
  · rintro w' ⟨s0, s1, s2, s3, s4, s5, s6, s7, s8, s9, s10, s11, s12, s13⟩
    go_simp
    with_reducible rfl
  rotate_left
  · simp only [Act.put, List.setIfInBounds_toArray, List.set_cons_zero, List.set_cons_succ, i64_w, i32_w]
    rfl
  refine one_ (i := 34) (N := some 130) #[true, true, true, true, true, true, true, true, true, true, true, true, true, true, true, true, true, true, true, true, true, true, true, true, true, true, true, true, true, true, true, true, true, true, true, false, false, false, false, false, false, false, false] rfl rfl (one_of HT_.out (by kernel_rfl)) (by decide) (fun K hK => ?_)
  refine goes_ Try.func13 (by kernel_rfl) rfl #[.agg #[.int .i64 3, .slice (some ⟨w.heap.size, 0, none⟩) 2 2], .int .i64 7] (by rfl) rfl rfl (by (try simp only [List.map_toArray, List.map_cons, List.map_nil]); first | done | rfl) ?_
  refine (c_has 7 false ex15 _ _ _ (HR.out.below HB.out).2.2).mono ?_
  rintro e w130 ⟨rfl, hb⟩
  refine ⟨_, rfl, ?_⟩
  replace HB := Aside0.mk (HB.out.trans (hb.mono HB.out.size))
  clear hb
  refine hK.out _ _ ⟨(HA.out.below HB.out).1, (HA.out.below HB.out).2.1, (HBb.out.below HB.out).1, (HBb.out.below HB.out).2.1, (HR.out.below HB.out).1, (HR.out.below HB.out).2.1, (HCc.out.below HB.out).1, (HCc.out.below HB.out).2.1, (HD.out.below HB.out).1.1, (HD.out.below HB.out).1.2.1, (HD.out.below HB.out).1.2.2.1, (HD.out.below HB.out).1.2.2.2, (HXx.out.below HB.out).1, (HXx.out.below HB.out).2.1⟩ (fun hHeld => ?_)
  clear hK K
  refine norm_ (a' := ?_) ?_ ?_
  rotate_left
  · show Act.put _ (some 130) _ = _
    simp only [Act.put, List.setIfInBounds_toArray, List.set_cons_zero, List.set_cons_succ, i64_w, i32_w]
    rfl
  refine pure_ (i := 35) (N := some 131) (v := ?_) (a' := ?_) #[true, true, true, true, true, true, true, true, true, true, true, true, true, true, true, true, true, true, true, true, true, true, true, true, true, true, true, true, true, true, true, true, true, true, true, true, false, false, false, false, false, false, false] rfl rfl (any_of HT_.out (by kernel_rfl)) (fun _ _ _ h => h) (Or.inl ⟨by rfl, ?_⟩) ?_ ?_
  rotate_left
  · intro w'
    go_simp
    with_reducible rfl
  rotate_left
  · simp only [Act.put, List.setIfInBounds_toArray, List.set_cons_zero, List.set_cons_succ, i64_w, i32_w]
    rfl
  refine pure_ (i := 36) (N := some 132) (v := ?_) (a' := ?_) #[true, true, true, true, true, true, true, true, true, true, true, true, true, true, true, true, true, true, true, true, true, true, true, true, true, true, true, true, true, true, true, true, true, true, true, true, true, false, false, false, false, false, false] rfl rfl (any_of HT_.out (by kernel_rfl)) (fun _ _ _ h => h) (Or.inl ⟨by rfl, ?_⟩) ?_ ?_
  rotate_left
  · intro w'
    go_simp
    with_reducible rfl
  rotate_left
  · simp only [Act.put, List.setIfInBounds_toArray, List.set_cons_zero, List.set_cons_succ, i64_w, i32_w]
    rfl
  refine pure_ (i := 37) (N := some 133) (v := ?_) (a' := ?_) #[true, true, true, true, true, true, true, true, true, true, true, true, true, true, true, true, true, true, true, true, true, true, true, true, true, true, true, true, true, true, true, true, true, true, true, true, true, true, false, false, false, false, false] rfl rfl (any_of HT_.out (by kernel_rfl)) (fun _ _ _ h => h) (Or.inl ⟨by rfl, ?_⟩) ?_ ?_
  rotate_left
  · intro w'
    go_simp
    with_reducible rfl
  rotate_left
  · simp only [Act.put, List.setIfInBounds_toArray, List.set_cons_zero, List.set_cons_succ, i64_w, i32_w]
    rfl
  refine take_ (i := 38) (N := some 134) (v := ?_) (a' := ?_) #[true, true, true, true, true, true, true, true, true, true, true, true, true, true, true, true, true, true, true, true, true, true, true, true, true, true, true, true, true, true, true, true, true, true, true, true, true, true, true, false, false, false, false] rfl rfl (take_ofW HT_.out HW_.out (by kernel_rfl)) (fun _ _ _ h => h) (Or.inl ⟨by rfl, ?_⟩) hHeld ?_ ?_
  rotate_left
  · rintro w' ⟨s0, s1, s2, s3, s4, s5, s6, s7, s8, s9, s10, s11, s12, s13⟩
    go_simp
    with_reducible rfl
  rotate_left
  · simp only [Act.put, List.setIfInBounds_toArray, List.set_cons_zero, List.set_cons_succ, i64_w, i32_w]
    rfl
  refine one_ (i := 39) (N := some 135) #[true, true, true, true, true, true, true, true, true, true, true, true, true, true, true, true, true, true, true, true, true, true, true, true, true, true, true, true, true, true, true, true, true, true, true, true, true, true, true, true, false, false, false] rfl rfl (one_of HT_.out (by kernel_rfl)) (by decide) (fun K hK => ?_)
  refine goes_ Try.func10 (by kernel_rfl) rfl #[.agg #[.int .i64 3, .slice (some ⟨w.heap.size, 0, none⟩) 2 2]] (by rfl) rfl rfl (by (try simp only [List.map_toArray, List.map_cons, List.map_nil]); first | done | rfl) ?_
  refine (c_right _ _ _ (HR.out.below HB.out).2.2).mono ?_
  rintro e w131 ⟨rfl, hb⟩
  refine ⟨_, rfl, ?_⟩
  replace HB := Aside0.mk (HB.out.trans (hb.mono HB.out.size))
  clear hb
  refine hK.out _ _ ⟨(HA.out.below HB.out).1, (HA.out.below HB.out).2.1, (HBb.out.below HB.out).1, (HBb.out.below HB.out).2.1, (HR.out.below HB.out).1, (HR.out.below HB.out).2.1, (HCc.out.below HB.out).1, (HCc.out.below HB.out).2.1, (HD.out.below HB.out).1.1, (HD.out.below HB.out).1.2.1, (HD.out.below HB.out).1.2.2.1, (HD.out.below HB.out).1.2.2.2, (HXx.out.below HB.out).1, (HXx.out.below HB.out).2.1⟩ (fun hHeld => ?_)
  clear hK K
  refine norm_ (a' := ?_) ?_ ?_
  rotate_left
  · show Act.put _ (some 135) _ = _
    simp only [Act.put, List.setIfInBounds_toArray, List.set_cons_zero, List.set_cons_succ, i64_w, i32_w]
    rfl
  refine pure_ (i := 40) (N := some 136) (v := ?_) (a' := ?_) #[true, true, true, true, true, true, true, true, true, true, true, true, true, true, true, true, true, true, true, true, true, true, true, true, true, true, true, true, true, true, true, true, true, true, true, true, true, true, true, true, true, false, false] rfl rfl (any_of HT_.out (by kernel_rfl)) (fun _ _ _ h => h) (Or.inl ⟨by rfl, ?_⟩) ?_ ?_
  rotate_left
  · intro w'
    go_simp
    with_reducible rfl
  rotate_left
  · simp only [Act.put, List.setIfInBounds_toArray, List.set_cons_zero, List.set_cons_succ, i64_w, i32_w]
    rfl
  refine pure_ (i := 41) (N := some 137) (v := ?_) (a' := ?_) #[true, true, true, true, true, true, true, true, true, true, true, true, true, true, true, true, true, true, true, true, true, true, true, true, true, true, true, true, true, true, true, true, true, true, true, true, true, true, true, true, true, true, false] rfl rfl (any_of HT_.out (by kernel_rfl)) (fun _ _ _ h => h) (Or.inl ⟨by rfl, ?_⟩) ?_ ?_
  rotate_left
  · intro w'
    go_simp
    with_reducible rfl
  rotate_left
  · simp only [Act.put, List.setIfInBounds_toArray, List.set_cons_zero, List.set_cons_succ, i64_w, i32_w]
    rfl
  refine pure_ (i := 42) (N := some 0) (v := ?_) (a' := ?_) #[true, true, true, true, true, true, true, true, true, true, true, true, true, true, true, true, true, true, true, true, true, true, true, true, true, true, true, true, true, true, true, true, true, true, true, true, true, true, true, true, true, true, true] rfl rfl (any_of HT_.out (by kernel_rfl)) (fun _ _ _ h => h) (Or.inl ⟨by rfl, ?_⟩) ?_ ?_
  rotate_left
  · intro w'
    go_simp
    with_reducible rfl
  rotate_left
  · simp only [Act.put, List.setIfInBounds_toArray, List.set_cons_zero, List.set_cons_succ, i64_w, i32_w]
    rfl
  refine done_ (done_of HT_.out (by kernel_rfl)) ?_
  try go_wp2
  go_ret
  exact ⟨rfl, HB0.out.trans (HB.out.mono HB0.out.size)⟩
end Go.Proofs.Ytedjibjmbgllkaa.PAll
