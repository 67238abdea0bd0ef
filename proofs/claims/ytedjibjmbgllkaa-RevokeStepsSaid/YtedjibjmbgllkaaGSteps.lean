/- RevokeSteps: the facts that its loop keeps, and special contracts of what it calls (for a walk by hand). -/
import Derived.Test.YtedjibjmbgllkaaPAllx13
import Derived.Test.YtedjibjmbgllkaaPAllx15
import Derived.Test.YtedjibjmbgllkaaPAllx16
import Derived.Test.YtedjibjmbgllkaaPAllx8
import Derived.Test.YtedjibjmbgllkaaPHandx0
namespace Go.Proofs.Ytedjibjmbgllkaa.PHand
open Go.RowKit Go.Proofs.Ytedjibjmbgllkaa.PAll Go.Proofs.YtedjibjmbgllkaaW.PrintWords Go.Proofs.YtedjibjmbgllkaaW.PrintLast Go.Proofs.YtedjibjmbgllkaaW.PrintMore
open Go.Proofs.Ytedjibjmbgllkaa.Pure (wr1 wr_small rd_nat Ev.cg ev_some changeS newL diffS minusS applyS)
set_option linter.unusedVariables false
set_option linter.unusedSimpArgs false
/-- A list that lies in the arguments' memory, or in new memory. -/
def XL (w W : World) (A : Option Addr) (c : Nat) (q : List Int) : Prop := Ints w A c q.length q ∨ RR W (.slice A q.length c) q
theorem XL.ints {w W : World} {A : Option Addr} {c : Nat} {q : List Int} (h : XL w W A c q) (hb : Below w.heap.size w W) : Ints W A c q.length q := by
  rcases h with h | h
  · exact h.below hb
  · exact h.ints rfl
theorem XL.below {w W W' : World} {A : Option Addr} {c : Nat} {q : List Int} (h : XL w W A c q) (hb : Below W.heap.size W W') : XL w W' A c q := by
  rcases h with h | h
  · exact .inl h
  · exact .inr (PAll.RR.below h hb)
theorem XL.set {w W : World} {A : Option Addr} {c : Nat} {q : List Int} (h : XL w W A c q) {g : Nat} {cs : Array Value} (hx : W.heap[g]? = some (.cells cs 24 (0, 0))) (j : Nat) (u : Value) : XL w (W.setCell ⟨g, j, none⟩ u) A c q := by
  rcases h with h | h
  · exact .inl h
  · exact .inr (RR.far24 h hx j u)
theorem XL.set36 {w W : World} {A : Option Addr} {c : Nat} {q : List Int} (h : XL w W A c q) {g : Nat} {cs : Array Value} (hx : W.heap[g]? = some (.cells cs 36 (0, 0))) (j : Nat) (u : Value) : XL w (W.setCell ⟨g, j, none⟩ u) A c q := by
  rcases h with h | h
  · exact .inl h
  · exact .inr (PAll.RR.far h hx j u)
/-- What the loop keeps: the variables r (at gr) and x (at gx). -/
structure ST (w W : World) (gr gx : Nat) (v : Int) (Ar : Option Addr) (nr cr : Nat) (x : Int) (Ax : Option Addr) (cx : Nat) (q : List Int) : Prop where
  below : Below w.heap.size w W
  br : W.heap[gr]? = some (.cells #[.int .i64 v, .slice Ar nr cr] 24 (0, 0))
  bx : W.heap[gx]? = some (.cells #[.int .i64 x, .slice Ax q.length cx] 24 (0, 0))
  ger : w.heap.size ≤ gr
  gex : w.heap.size ≤ gx
  ne : gr ≠ gx
  xl : XL w W Ax cx q
section
variable {w W W' : World} {gr gx : Nat} {v : Int} {Ar : Option Addr} {nr cr : Nat} {x : Int} {Ax : Option Addr} {cx : Nat} {q : List Int}
theorem ST.on (h : ST w W gr gx v Ar nr cr x Ax cx q) (hb : Below W.heap.size W W') : ST w W' gr gx v Ar nr cr x Ax cx q :=
  ⟨h.below.trans (hb.mono h.below.size), blk_below h.br hb, blk_below h.bx hb, h.ger, h.gex, h.ne, h.xl.below hb⟩
theorem ST.r0 (h : ST w W gr gx v Ar nr cr x Ax cx q) : W.cell? ⟨gr, 0, none⟩ = some (.int .i64 v) := blk_cell h.br 0
theorem ST.r1 (h : ST w W gr gx v Ar nr cr x Ax cx q) : W.cell? ⟨gr, 1, none⟩ = some (.slice Ar nr cr) := blk_cell h.br 1
theorem ST.x0 (h : ST w W gr gx v Ar nr cr x Ax cx q) : W.cell? ⟨gx, 0, none⟩ = some (.int .i64 x) := blk_cell h.bx 0
theorem ST.x1 (h : ST w W gr gx v Ar nr cr x Ax cx q) : W.cell? ⟨gx, 1, none⟩ = some (.slice Ax q.length cx) := blk_cell h.bx 1
theorem ST.f0 (h : ST w W gr gx v Ar nr cr x Ax cx q) : W.frozen? ⟨gx, 0, none⟩ = false := blk_frozen h.bx 0
theorem ST.f1 (h : ST w W gr gx v Ar nr cr x Ax cx q) : W.frozen? ⟨gx, 1, none⟩ = false := blk_frozen h.bx 1
/-- x = y: another value is stored into x's variable. -/
theorem ST.put (h : ST w W gr gx v Ar nr cr x Ax cx q) (y : Int) (Ay : Option Addr) (cy : Nat) (p : List Int) (hp : XL w W Ay cy p) :
    ST w ((W.setCell ⟨gx, 0, none⟩ (.int .i64 y)).setCell ⟨gx, 1, none⟩ (.slice Ay p.length cy)) gr gx v Ar nr cr y Ay cy p := by
  have b1 := blk_put (cs' := #[.int .i64 y, .slice Ax q.length cx]) h.bx 0 (.int .i64 y) rfl
  have b2 := blk_put (cs' := #[.int .i64 y, .slice Ay p.length cy]) b1 1 (.slice Ay p.length cy) rfl
  refine ⟨below_set (below_set h.below h.gex) h.gex, ?_, b2, h.ger, h.gex, h.ne, (hp.set h.bx 0 _).set b1 1 _⟩
  exact (Below.heap_setCell _ ⟨gx, 1, none⟩ _ gr h.ne).trans ((Below.heap_setCell W ⟨gx, 0, none⟩ _ gr h.ne).trans h.br)
end
/-! ### what is called -/
theorem s_change (v : Int) (l add drop : List Int) (x1 : Int) (x2 : List Int) (x3 : Int) (hcs : changeS v l add drop = (x1, x2, x3)) (W : World) (A Aa Ad : Option Addr) (c ca cd : Nat) (hv : 0 ≤ v ∧ v ≤ 1000000) (hl : l.length ≤ 1000) (hal : add.length ≤ 1000) (hdl : drop.length ≤ 1000) (hI : Ints W A c l.length l) (ha : Ints W Aa ca add.length add) (hd : Ints W Ad cd drop.length drop) :
    Calls Try.prog 16 #[.agg #[.int .i64 v, .slice A l.length c], .slice Aa add.length ca, .slice Ad drop.length cd] W fun e w' => ∃ A' c', e = .returned (.tuple #[.agg #[.int .i64 x1, .slice A' x2.length c'], .int .i64 x3]) ∧ RR w' (.slice A' x2.length c') x2 ∧ Below W.heap.size W w' := by
  obtain ⟨k, hk⟩ := Ev.rounds (Pure.changeW v l add drop hv hl hal hdl)
  rw [hcs] at hk
  refine (revoke_Change.calls k v A c l (fun k_ => k_ < W.heap.size) Aa ca add Ad cd drop x1 x2 x3 W hI.1 hI.2 (Kd.V_mk ha.2 (Kd.C_F (Kd.heap_int .i64) ha.1)) hd.1 hd.2 hk).mono ?_
  rintro e w' ⟨u, rfl, hR, hB⟩
  obtain ⟨A2, c2, rfl⟩ := Kd.R_slice hR
  exact ⟨A2, c2, rfl, ⟨_, _, hR⟩, hB⟩
theorem s_diff (va : Int) (a : List Int) (vb : Int) (b p m : List Int) (hp : p = minusS b a) (hm : m = minusS a b) (ha : a.length ≤ 1000000) (hb : b.length ≤ 1000000) (W : World) (A A' : Option Addr) (c c' : Nat) (hI : Ints W A c a.length a) (hI' : Ints W A' c' b.length b) :
    Calls Try.prog 22 #[.agg #[.int .i64 va, .slice A a.length c], .agg #[.int .i64 vb, .slice A' b.length c']] W fun e w' => ∃ A3 c3 A4 c4, e = .returned (.agg #[.int .i64 va, .int .i64 vb, .slice A3 p.length c3, .slice A4 m.length c4]) ∧ RR w' (.slice A3 p.length c3) p ∧ RR w' (.slice A4 m.length c4) m ∧ Below W.heap.size W w' := by
  subst hp hm
  obtain ⟨k, hk⟩ := Ev.rounds (Pure.diffW va a vb b ha hb)
  refine (revoke_Diff.calls k va A c a vb A' c' b va vb (minusS b a) (minusS a b) W hI.1 hI.2 hI'.1 hI'.2 hk).mono ?_
  rintro e w' ⟨v3, v4, rfl, h3, h4, hB⟩
  obtain ⟨A3, c3, rfl⟩ := Kd.R_slice h3
  obtain ⟨A4, c4, rfl⟩ := Kd.R_slice h4
  exact ⟨A3, c3, A4, c4, rfl, ⟨_, _, h3⟩, ⟨_, _, h4⟩, hB⟩
theorem s_apply (v : Int) (l : List Int) (f t : Int) (add drop : List Int) (x1 : Int) (x2 : List Int) (x3 : Int) (hx : applyS v l f t add drop = (x1, x2, x3)) (hs : Pure.Inc l) (hl : l.length ≤ 1000) (ha : add.length ≤ 1000) (hd : drop.length ≤ 1000) (W : World) (A A2 A3 : Option Addr) (c c2 c3 : Nat) (hI : Ints W A c l.length l) (h2 : Ints W A2 c2 add.length add) (h3 : Ints W A3 c3 drop.length drop) :
    Calls Try.prog 19 #[.agg #[.int .i64 v, .slice A l.length c], .agg #[.int .i64 f, .int .i64 t, .slice A2 add.length c2, .slice A3 drop.length c3]] W fun e w' => ∃ A' c', e = .returned (.tuple #[.agg #[.int .i64 x1, .slice A' x2.length c'], .int .i64 x3]) ∧ Ints w' A' c' x2.length x2 ∧ Below W.heap.size W w' := by
  obtain ⟨k, hk⟩ := Ev.rounds (Pure.applyW v l f t add drop hs hl ha hd)
  rw [hx] at hk
  refine (revoke_Apply.calls k v A c l f t (fun k_ => k_ < W.heap.size) A2 c2 add A3 c3 drop x1 x2 x3 W hI.1 hI.2 (Kd.V_mk h2.2 (Kd.C_F (Kd.heap_int .i64) h2.1)) h3.1 h3.2 hk).mono ?_
  rintro e w' ⟨u, rfl, hR, hB⟩
  obtain ⟨A', c', rfl⟩ := Kd.R_slice hR
  exact ⟨A', c', rfl, ⟨(Kd.R_reads' hR).2.2, (Kd.R_reads' hR).2.1⟩, hB⟩
/-- A revision in a variable of its own: the four stores. -/
theorem put4 {W : World} {g : Nat} (hx : W.heap[g]? = some (.cells #[.int .i64 0, .int .i64 0, .slice none 0 0, .slice none 0 0] 36 (0, 0))) (a b : Int) (u v : Value) :
    ((((W.setCell ⟨g, 0, none⟩ (.int .i64 a)).setCell ⟨g, 1, none⟩ (.int .i64 b)).setCell ⟨g, 2, none⟩ u).setCell ⟨g, 3, none⟩ v).heap[g]? = some (.cells #[.int .i64 a, .int .i64 b, u, v] 36 (0, 0)) ∧
    (∀ (z : Value) (l : List Int), RR W z l → RR ((((W.setCell ⟨g, 0, none⟩ (.int .i64 a)).setCell ⟨g, 1, none⟩ (.int .i64 b)).setCell ⟨g, 2, none⟩ u).setCell ⟨g, 3, none⟩ v) z l) ∧
    (∀ (h : Nat) (o : Obj), h ≠ g → W.heap[h]? = some o → ((((W.setCell ⟨g, 0, none⟩ (.int .i64 a)).setCell ⟨g, 1, none⟩ (.int .i64 b)).setCell ⟨g, 2, none⟩ u).setCell ⟨g, 3, none⟩ v).heap[h]? = some o) := by
  have x1 := blk_put (cs' := #[.int .i64 a, .int .i64 0, .slice none 0 0, .slice none 0 0]) hx 0 (.int .i64 a) rfl
  have x2 := blk_put (cs' := #[.int .i64 a, .int .i64 b, .slice none 0 0, .slice none 0 0]) x1 1 (.int .i64 b) rfl
  have x3 := blk_put (cs' := #[.int .i64 a, .int .i64 b, u, .slice none 0 0]) x2 2 u rfl
  have x4 := blk_put (cs' := #[.int .i64 a, .int .i64 b, u, v]) x3 3 v rfl
  refine ⟨x4, fun z l h => PAll.RR.far (PAll.RR.far (PAll.RR.far (PAll.RR.far h hx 0 _) x1 1 _) x2 2 _) x3 3 _, fun h o hne ho => ?_⟩
  exact (Below.heap_setCell _ ⟨g, 3, none⟩ _ h hne).trans ((Below.heap_setCell _ ⟨g, 2, none⟩ _ h hne).trans ((Below.heap_setCell _ ⟨g, 1, none⟩ _ h hne).trans ((Below.heap_setCell _ ⟨g, 0, none⟩ _ h hne).trans ho)))
theorem s_samer (f t : Int) (a d : List Int) (n m : Nat) (hn : n = a.length) (hm : m = d.length) (ha : a.length ≤ 1000000) (hd : d.length ≤ 1000000) (W : World) (A A2 A3 A4 : Option Addr) (c c2 c3 c4 : Nat) (h : Ints W A c n a) (h2 : Ints W A2 c2 m d) (h3 : Ints W A3 c3 n a) (h4 : Ints W A4 c4 m d) :
    Calls Try.prog 21 #[.agg #[.int .i64 f, .int .i64 t, .slice A n c, .slice A2 m c2], .agg #[.int .i64 f, .int .i64 t, .slice A3 n c3, .slice A4 m c4]] W fun e w' => e = .returned (.bool true) ∧ Below W.heap.size W w' := by
  subst hn hm
  obtain ⟨k, hk⟩ := Ev.rounds (Pure.sameRev f t a d ha hd)
  exact skiarearef27_SameRevision.calls k f t A c a A2 c2 d f t A3 c3 a A4 c4 d true W h.1 h.2 h2.1 h2.2 h3.1 h3.2 h4.1 h4.2 hk
theorem s_self (va : Int) (a : List Int) (ha : a.length ≤ 1000000) (W : World) (A : Option Addr) (c : Nat) (hI : Ints W A c a.length a) :
    Calls Try.prog 22 #[.agg #[.int .i64 va, .slice A a.length c], .agg #[.int .i64 va, .slice A a.length c]] W fun e w' => ∃ A3 c3 A4 c4, e = .returned (.agg #[.int .i64 va, .int .i64 va, .slice A3 0 c3, .slice A4 0 c4]) ∧ Ints w' A3 c3 0 [] ∧ Ints w' A4 c4 0 [] ∧ Below W.heap.size W w' := by
  refine (s_diff va a va a [] [] (Pure.minus_self a).symm (Pure.minus_self a).symm ha ha W A A c c hI hI).mono ?_
  rintro e w' ⟨A3, c3, A4, c4, rfl, h3, h4, hb⟩
  exact ⟨A3, c3, A4, c4, rfl, PAll.RR.ints h3 rfl, PAll.RR.ints h4 rfl, hb⟩
end Go.Proofs.Ytedjibjmbgllkaa.PHand
