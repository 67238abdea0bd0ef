/- The cells of a variable, told together. -/
import Derived.Test.YtbfflokkdahjjaaPAllx0
namespace Go.Proofs.Ytbfflokkdahjjaa.PAll
open Go.RowKit Go.Proofs.YtbfflokkdahjjaaW.PrintWords Go.Proofs.YtbfflokkdahjjaaW.PrintLast Go.Proofs.YtbfflokkdahjjaaW.PrintMore
set_option linter.unusedVariables false
set_option linter.unusedSimpArgs false
/-- The cells of block b, from its first one on. -/
def At (W : World) (b : Nat) (cs : List Value) : Prop := ∀ j u, cs[j]? = some u → W.cell? ⟨b, j, none⟩ = some u
theorem At.below {W W' : World} {b : Nat} {cs : List Value} (h : At W b cs) (hb : Below W.heap.size W W') : At W' b cs := fun j u hj => pw_cell_below hb (h j u hj)
theorem At.new (W : World) (cs : Array Value) (t : TypeId) (b : Nat) (hb : b = W.heap.size) : At (W.alloc (.cells cs t)) b cs.toList := by
  subst hb
  intro j u hj
  rw [blk_cell (blk_new W _) j]
  simpa using hj
theorem At.alloc {W : World} {b : Nat} {cs : List Value} (h : At W b cs) (o : Obj) : At (W.alloc o) b cs := h.below (below_alloc (Below.refl _ _) o)
theorem At.drewN {W : World} {b : Nat} {cs : List Value} (h : At W b cs) (n : Nat) : At (W.drewN n) b cs := h.below (Drawn0.below ⟨⟨n, rfl⟩⟩)
theorem box_drew (w : World) (o : Obj) (n : Nat) : Below w.heap.size w ((w.alloc o).drewN n) := ((Below.refl w.heap.size w).alloc (Nat.le_refl _) o).trans ((Drawn0.below ⟨⟨n, rfl⟩⟩).mono (by simp))
theorem blk_other {w : World} {g g' j : Nat} {o : Obj} {u : Value} (h : w.heap[g]? = some o) (hne : g' ≠ g) : (w.setCell ⟨g', j, none⟩ u).heap[g]? = some o :=
  (Below.heap_setCell w ⟨g', j, none⟩ u g (fun e => hne e.symm)).trans h
theorem blk_put7 {w : World} {g : Nat} {t : TypeId} {x0 x1 x2 x3 x4 x5 x6 : Value} (h : w.heap[g]? = some (.cells #[x0, x1, x2, x3, x4, x5, x6] t (0, 0))) (u0 u1 u2 u3 u4 u5 u6 : Value) : (((((((w.setCell ⟨g, 0, none⟩ u0).setCell ⟨g, 1, none⟩ u1).setCell ⟨g, 2, none⟩ u2).setCell ⟨g, 3, none⟩ u3).setCell ⟨g, 4, none⟩ u4).setCell ⟨g, 5, none⟩ u5).setCell ⟨g, 6, none⟩ u6).heap[g]? = some (.cells #[u0, u1, u2, u3, u4, u5, u6] t (0, 0)) := by
  have h0 := blk_put (cs' := #[u0, x1, x2, x3, x4, x5, x6]) h 0 u0 rfl
  have h1 := blk_put (cs' := #[u0, u1, x2, x3, x4, x5, x6]) h0 1 u1 rfl
  have h2 := blk_put (cs' := #[u0, u1, u2, x3, x4, x5, x6]) h1 2 u2 rfl
  have h3 := blk_put (cs' := #[u0, u1, u2, u3, x4, x5, x6]) h2 3 u3 rfl
  have h4 := blk_put (cs' := #[u0, u1, u2, u3, u4, x5, x6]) h3 4 u4 rfl
  have h5 := blk_put (cs' := #[u0, u1, u2, u3, u4, u5, x6]) h4 5 u5 rfl
  have h6 := blk_put (cs' := #[u0, u1, u2, u3, u4, u5, u6]) h5 6 u6 rfl
  exact h6
theorem blk_put8 {w : World} {g : Nat} {t : TypeId} {x0 x1 x2 x3 x4 x5 x6 x7 : Value} (h : w.heap[g]? = some (.cells #[x0, x1, x2, x3, x4, x5, x6, x7] t (0, 0))) (u0 u1 u2 u3 u4 u5 u6 u7 : Value) : ((((((((w.setCell ⟨g, 0, none⟩ u0).setCell ⟨g, 1, none⟩ u1).setCell ⟨g, 2, none⟩ u2).setCell ⟨g, 3, none⟩ u3).setCell ⟨g, 4, none⟩ u4).setCell ⟨g, 5, none⟩ u5).setCell ⟨g, 6, none⟩ u6).setCell ⟨g, 7, none⟩ u7).heap[g]? = some (.cells #[u0, u1, u2, u3, u4, u5, u6, u7] t (0, 0)) := by
  have h0 := blk_put (cs' := #[u0, x1, x2, x3, x4, x5, x6, x7]) h 0 u0 rfl
  have h1 := blk_put (cs' := #[u0, u1, x2, x3, x4, x5, x6, x7]) h0 1 u1 rfl
  have h2 := blk_put (cs' := #[u0, u1, u2, x3, x4, x5, x6, x7]) h1 2 u2 rfl
  have h3 := blk_put (cs' := #[u0, u1, u2, u3, x4, x5, x6, x7]) h2 3 u3 rfl
  have h4 := blk_put (cs' := #[u0, u1, u2, u3, u4, x5, x6, x7]) h3 4 u4 rfl
  have h5 := blk_put (cs' := #[u0, u1, u2, u3, u4, u5, x6, x7]) h4 5 u5 rfl
  have h6 := blk_put (cs' := #[u0, u1, u2, u3, u4, u5, u6, x7]) h5 6 u6 rfl
  have h7 := blk_put (cs' := #[u0, u1, u2, u3, u4, u5, u6, u7]) h6 7 u7 rfl
  exact h7
theorem blk_put9 {w : World} {g : Nat} {t : TypeId} {x0 x1 x2 x3 x4 x5 x6 x7 x8 : Value} (h : w.heap[g]? = some (.cells #[x0, x1, x2, x3, x4, x5, x6, x7, x8] t (0, 0))) (u0 u1 u2 u3 u4 u5 u6 u7 u8 : Value) : (((((((((w.setCell ⟨g, 0, none⟩ u0).setCell ⟨g, 1, none⟩ u1).setCell ⟨g, 2, none⟩ u2).setCell ⟨g, 3, none⟩ u3).setCell ⟨g, 4, none⟩ u4).setCell ⟨g, 5, none⟩ u5).setCell ⟨g, 6, none⟩ u6).setCell ⟨g, 7, none⟩ u7).setCell ⟨g, 8, none⟩ u8).heap[g]? = some (.cells #[u0, u1, u2, u3, u4, u5, u6, u7, u8] t (0, 0)) := by
  have h0 := blk_put (cs' := #[u0, x1, x2, x3, x4, x5, x6, x7, x8]) h 0 u0 rfl
  have h1 := blk_put (cs' := #[u0, u1, x2, x3, x4, x5, x6, x7, x8]) h0 1 u1 rfl
  have h2 := blk_put (cs' := #[u0, u1, u2, x3, x4, x5, x6, x7, x8]) h1 2 u2 rfl
  have h3 := blk_put (cs' := #[u0, u1, u2, u3, x4, x5, x6, x7, x8]) h2 3 u3 rfl
  have h4 := blk_put (cs' := #[u0, u1, u2, u3, u4, x5, x6, x7, x8]) h3 4 u4 rfl
  have h5 := blk_put (cs' := #[u0, u1, u2, u3, u4, u5, x6, x7, x8]) h4 5 u5 rfl
  have h6 := blk_put (cs' := #[u0, u1, u2, u3, u4, u5, u6, x7, x8]) h5 6 u6 rfl
  have h7 := blk_put (cs' := #[u0, u1, u2, u3, u4, u5, u6, u7, x8]) h6 7 u7 rfl
  have h8 := blk_put (cs' := #[u0, u1, u2, u3, u4, u5, u6, u7, u8]) h7 8 u8 rfl
  exact h8
theorem blk_put10 {w : World} {g : Nat} {t : TypeId} {x0 x1 x2 x3 x4 x5 x6 x7 x8 x9 : Value} (h : w.heap[g]? = some (.cells #[x0, x1, x2, x3, x4, x5, x6, x7, x8, x9] t (0, 0))) (u0 u1 u2 u3 u4 u5 u6 u7 u8 u9 : Value) : ((((((((((w.setCell ⟨g, 0, none⟩ u0).setCell ⟨g, 1, none⟩ u1).setCell ⟨g, 2, none⟩ u2).setCell ⟨g, 3, none⟩ u3).setCell ⟨g, 4, none⟩ u4).setCell ⟨g, 5, none⟩ u5).setCell ⟨g, 6, none⟩ u6).setCell ⟨g, 7, none⟩ u7).setCell ⟨g, 8, none⟩ u8).setCell ⟨g, 9, none⟩ u9).heap[g]? = some (.cells #[u0, u1, u2, u3, u4, u5, u6, u7, u8, u9] t (0, 0)) := by
  have h0 := blk_put (cs' := #[u0, x1, x2, x3, x4, x5, x6, x7, x8, x9]) h 0 u0 rfl
  have h1 := blk_put (cs' := #[u0, u1, x2, x3, x4, x5, x6, x7, x8, x9]) h0 1 u1 rfl
  have h2 := blk_put (cs' := #[u0, u1, u2, x3, x4, x5, x6, x7, x8, x9]) h1 2 u2 rfl
  have h3 := blk_put (cs' := #[u0, u1, u2, u3, x4, x5, x6, x7, x8, x9]) h2 3 u3 rfl
  have h4 := blk_put (cs' := #[u0, u1, u2, u3, u4, x5, x6, x7, x8, x9]) h3 4 u4 rfl
  have h5 := blk_put (cs' := #[u0, u1, u2, u3, u4, u5, x6, x7, x8, x9]) h4 5 u5 rfl
  have h6 := blk_put (cs' := #[u0, u1, u2, u3, u4, u5, u6, x7, x8, x9]) h5 6 u6 rfl
  have h7 := blk_put (cs' := #[u0, u1, u2, u3, u4, u5, u6, u7, x8, x9]) h6 7 u7 rfl
  have h8 := blk_put (cs' := #[u0, u1, u2, u3, u4, u5, u6, u7, u8, x9]) h7 8 u8 rfl
  have h9 := blk_put (cs' := #[u0, u1, u2, u3, u4, u5, u6, u7, u8, u9]) h8 9 u9 rfl
  exact h9
theorem blk_new1 (w : World) (o0 o1 : Obj) : ((w.alloc o0).alloc o1).heap[w.heap.size + 1]? = some o1 := by
  have := blk_new (w.alloc o0) o1
  simpa [Nat.add_assoc] using this
theorem blk_new2 (w : World) (o0 o1 o2 : Obj) : (((w.alloc o0).alloc o1).alloc o2).heap[w.heap.size + 1 + 1]? = some o2 := by
  have := blk_new ((w.alloc o0).alloc o1) o2
  simpa [Nat.add_assoc] using this
theorem blk_new3 (w : World) (o0 o1 o2 o3 : Obj) : ((((w.alloc o0).alloc o1).alloc o2).alloc o3).heap[w.heap.size + 1 + 1 + 1]? = some o3 := by
  have := blk_new (((w.alloc o0).alloc o1).alloc o2) o3
  simpa [Nat.add_assoc] using this
theorem blk_new4 (w : World) (o0 o1 o2 o3 o4 : Obj) : (((((w.alloc o0).alloc o1).alloc o2).alloc o3).alloc o4).heap[w.heap.size + 1 + 1 + 1 + 1]? = some o4 := by
  have := blk_new ((((w.alloc o0).alloc o1).alloc o2).alloc o3) o4
  simpa [Nat.add_assoc] using this
end Go.Proofs.Ytbfflokkdahjjaa.PAll
