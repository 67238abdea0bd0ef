/- winch.Swept returns the runs of the ropes that sweep at a time, in increasing order, each once. -/
import Derived.Test.YtipnnihjkipnoaaGAt
import Derived.Test.YtipnnihjkipnoaaGSort
import Derived.RangeFuncBox
import Derived.Maps.OwnIn
namespace Go.Proofs.Ytipnnihjkipnoaa.PAll
set_option linter.unusedVariables false
set_option linter.unusedSimpArgs false
open Go.RowKit Go.Shelf Go.Proofs.YtipnnihjkipnoaaW.PrintWords Go.Proofs.YtipnnihjkipnoaaW.PrintLast Go.Proofs.YtipnnihjkipnoaaW.PrintMore
attribute [local go_sem] Oper.semAt_some

def runsOf (l : List S29) : List Int := l.flatMap (fun x => x.f3)
def winch_Swept.f (l0 : List (S29)) (a1 : Int) : Option (List Int) :=
  if l0.length ≤ 1000 ∧ ∀ x ∈ l0, 0 < x.f3.length ∧ x.f3.length ≤ 1000 then some (Help.sset (runsOf (l0.filter (onB a1)))) else none

theorem KpT.trans {n₀ Bt : Nat} {A B C : World} (h : KpT n₀ Bt A B) (k : KpT n₀ Bt B C) : KpT n₀ Bt A C := ⟨h.1.trans k.1, fun v hv => k.2 v (h.2 v hv)⟩
theorem KpT.turn {n₀ Bt : Nat} {wx : World} (hm : n₀ ≤ wx.heap.size) (W : World) (l : Nat) (o o' : Obj) (hl : wx.heap.size ≤ l) (ho : W.heap[l]? = some o) (hc : o.isCells = false) (hw : o.isWalk = false) : KpT n₀ Bt W (W.putObj l o') := by
  refine ⟨belowK_b hm W l o o' hl ho hc hw, fun v hv => ?_⟩
  exact cell_kept hv (grownBy_putObj' W l o') (fun r e => by cases e; exact ⟨o, ho, hc⟩)
theorem runs_le {w : World} (l : List (RopeAt w)) : (runsOf (ropes l)).length ≤ l.length * 1000 := by
  induction l with
  | nil => simp [runsOf, ropes]
  | cons x l ih =>
    have hx := x.2.2.1
    simp only [runsOf, ropes, List.map_cons, List.flatMap_cons, List.length_append, List.length_cons] at ih ⊢
    omega

theorem runs_snoc {w : World} (pre : List (RopeAt w)) (x : RopeAt w) : runsOf (ropes (pre ++ [x])) = runsOf (ropes pre) ++ x.1.1.f3 := by simp [runsOf, ropes]
/-- 'out = append(out, xs...)' of a boxed variable: what the walk owes behind the store. -/
theorem appended0 {W w1 : World} {n₀ B : Nat} {t e : TypeId} {size : Nat} {v v' : Value} {k m : Nat} {xs ys : List Value}
    (hv : Boxed W B t v) (hte : t ≠ e) (hrow : W.ownsRow n₀ e size v k xs) (hn₀ : n₀ ≤ W.heap.size) (hB : n₀ ≤ B)
    (hown' : w1.ownsRow n₀ e size v' m ys) (hgrow : W.grownBy w1 v.ownBlock) :
    Boxed w1 B t v ∧ Boxed (w1.setCell ⟨B, 0, none⟩ v') B t v' ∧ (w1.setCell ⟨B, 0, none⟩ v').ownsRow n₀ e size v' m ys ∧ KeepsOthers W (w1.setCell ⟨B, 0, none⟩ v') ∧ Below n₀ W (w1.setCell ⟨B, 0, none⟩ v') := by
  have hv1 : Boxed w1 B t v := hv.kept hgrow (hv.not_row hte hrow)
  refine ⟨hv1, hv1.set v', hown'.kept (grownBy_setCell' w1 B v') (.inr (hv1.not_row hte hown').symm), ?_, ?_⟩
  · refine (KeepsOthers.of_grownBy hgrow fun j o ej hj => ?_).trans (KeepsOthers.setCell _ _ _)
    obtain ⟨cells, hc⟩ := own_typed hrow j ej
    rw [hc] at hj; cases hj; rfl
  · exact ((Below.refl n₀ W).grown hgrow hn₀ (own_base hrow)).setCell (p := ⟨B, 0, none⟩) hB v'

set_option maxRecDepth 100000 in
set_option maxHeartbeats 4000000 in
theorem winch_Swept.calls (A0 : Option Addr) (c0 : Nat) (l0 : List (S29)) (a1 : Int) (r : List Int) (w : World) (hr0 : Kd.C k29 w A0 l0.length l0) (hc0 : l0.length ≤ c0) (h : winch_Swept.f l0 a1 = some r) :
    Calls Try.prog 19 #[.slice A0 l0.length c0, .int .i64 a1] w fun e w' => ∃ v0_ : Value, e = .returned (v0_) ∧ Kd.R (Kd.int .i64) 3 w' w.heap.size (fun _ => True) v0_ r ∧ Below w.heap.size w w' := by
  unfold winch_Swept.f at h
  split at h
  · rename_i hg
    injection h with h
    have HR := Aside0.mk h
    clear h
    obtain ⟨hn, hls⟩ := hg
    have hu29 := Try.underlying29
    obtain ⟨i0, hi, hz0, hz1, hz2⟩ := info_parts info3
    refine (callsIn_wide (n := 5)).1 ?_
    refine callsIn_of_wp_marks Try.func19 rfl trivial ?_ rfl
    simp only [Try.ntmps19, List.size_toArray, List.length_cons, List.length_nil, Nat.reduceAdd, Nat.reduceSub, Array.replicate_succ, Array.replicate_zero, List.push_toArray, List.append_toArray, List.nil_append, List.cons_append]
    have f33 : Fence.wide.fn 33 := trivial
    have f34 : Fence.wide.fn 34 := trivial
    have f35 : Fence.wide.fn 35 := trivial
    gi_wp2_with (gi_at_call 33; refine (at_in Fence.wide _ trivial rfl _ _ _ _ _).mono ?_; rintro e w' ⟨rfl, rfl⟩)
    have bO := ((Boxed.new w 27 (.slice none 0 0)).alloc (.cells #[.slice A0 l0.length c0] 22)).alloc (.cells #[.int .i64 a1] 3)
    have bL := (Boxed.new (w.alloc (.cells #[.slice none 0 0] 27)) 22 (.slice A0 l0.length c0)).alloc (.cells #[.int .i64 a1] 3)
    have bT := Boxed.new ((w.alloc (.cells #[.slice none 0 0] 27)).alloc (.cells #[.slice A0 l0.length c0] 22)) 3 (.int .i64 a1)
    have hB0 : Below w.heap.size w (((w.alloc (.cells #[.slice none 0 0] 27)).alloc (.cells #[.slice A0 l0.length c0] 22)).alloc (.cells #[.int .i64 a1] 3)) := ((((Below.refl _ w).alloc (Nat.le_refl _) _).alloc (by simp) _).alloc (by simp; omega) _)
    simp only [World.size_alloc] at bL bT
    have hsz : (((w.alloc (.cells #[.slice none 0 0] 27)).alloc (.cells #[.slice A0 l0.length c0] 22)).alloc (.cells #[.int .i64 a1] 3)).heap.size = w.heap.size + 3 := by simp
    (try simp only [World.size_alloc])
    obtain ⟨W0, hW0⟩ : ∃ W0, ((w.alloc (.cells #[.slice none 0 0] 27)).alloc (.cells #[.slice A0 l0.length c0] 22)).alloc (.cells #[.int .i64 a1] 3) = W0 := ⟨_, rfl⟩
    rw [hW0] at bO bL bT hB0 hsz ⊢
    clear hW0
    refine wpIn_rangeFunc_ownH (w0 := W0) rfl (by decide) (gf := 41) (lb := #[.pointer (some ⟨w.heap.size + 1, 0, none⟩), .pointer (some ⟨w.heap.size + 1 + 1, 0, none⟩)]) rfl trivial (enters_of Try.func41 (by kernel_rfl) rfl)
      (at_stops Fence.wide 4 trivial rfl (by decide) (w.heap.size + 1) (w.heap.size + 1 + 1) w W0 A0 c0 l0 a1 hr0 hls hB0 (by omega) bL.cell bT.cell) KpT.trans (KpT.turn (by omega)) (Below.refl _ _) (fun _ => rfl)
      (fun pre W => ((∃ v, Boxed W w.heap.size 27 v ∧ W.ownsRow w.heap.size 3 1 v (runsOf (ropes pre)).length ((runsOf (ropes pre)).map (Value.int .i64)) ∧ v.ownBlock ≠ some (w.heap.size + 1 + 1)) ∧ Boxed W (w.heap.size + 1 + 1) 3 (.int .i64 a1)) ∧ Below w.heap.size w W)
      (fun _ _ _ => False)
      (OwnFrom.and (OwnFrom.and (Own.from (holdsRow_own w.heap.size w.heap.size 27 3 1 (fun pre => (runsOf (ropes pre)).length) (fun pre => (runsOf (ropes pre)).map (Value.int .i64)) (fun _ v => v.ownBlock ≠ some (w.heap.size + 1 + 1))) _) (Own.from (boxed_own _ _ _) _)) (ownFrom_below (Nat.le_refl _) (by omega)))
      (fun _ _ _ _ _ hs _ _ => hs)
      ⟨⟨⟨_, bO, World.ownsRow_nil _ _ _ _, by simp [Value.ownBlock]⟩, bT⟩, hB0⟩
      (fun x a' W => ∃ Bx, w.heap.size + 1 + 1 < Bx ∧ W.heap[Bx]? = some (.cells #[.int .i64 x.1.1.f0, .int .i64 x.1.1.f1, .int .i64 x.1.1.f2, .slice x.1.2.1 x.1.1.f3.length x.1.2.2] 29 (0, 0)) ∧ a' = { tmps := #[.slice A0 l0.length c0, .int .i64 a1, undef, undef, .slice none 0 0, .pointer (some ⟨w.heap.size, 0, none⟩), .pointer (some ⟨Bx, 0, none⟩), .slice A0 l0.length c0, .int .i64 a1, .func (.func 41) #[] #[.pointer (some ⟨w.heap.size + 1, 0, none⟩), .pointer (some ⟨w.heap.size + 1 + 1, 0, none⟩)], ropeVal x, undef, undef, undef, undef, undef, undef, undef, undef], defers := [] })
      (fun x a' _ X Y row hs hg hr => by
        obtain ⟨Bx, h1, h2, h3⟩ := hs
        refine ⟨Bx, h1, (hg.block Bx (Array.getElem?_eq_some_iff.1 h2).1 (fun e' => ?_)).trans h2, h3⟩
        obtain ⟨_, o, ho, hc⟩ := hr Bx e'.symm
        rw [h2] at ho; cases ho; cases hc)
      ?assign ?body ?done ?stop
    case assign =>
      rintro l pre x W K ⟨⟨⟨v, bv, hrow, hne⟩, bT1⟩, hB1⟩ hK
      dsimp only [ropeVal]
      gi_wp2
      exact hK _ _ ((KeepsOthers.alloc _ _).from _) ⟨(Below.refl _ W).alloc hB1.size _, fun v hv => pw_cell_below (below_alloc (Below.refl _ _) _) hv⟩ ⟨⟨⟨v, bv.alloc _, hrow.alloc _, hne⟩, bT1.alloc _⟩, hB1.alloc hB1.size _⟩ ⟨W.heap.size, bT1.lt, World.alloc_heap_new W _, rfl⟩
    case body =>
      rintro l pre x a' W hl ⟨r', hr'⟩ ⟨⟨⟨v, bv, hrow, hne⟩, bT1⟩, hB1⟩ ⟨Bx, hBx, bX, rfl⟩ hlt
      have RS := Aside0.mk (runs_snoc pre x)
      obtain ⟨⟨g, A3, c3⟩, p1, p2, p3, p4⟩ := x
      dsimp only at RS
      dsimp only at p1 p2 p3 p4 bX
      dsimp only [ropeVal]
      obtain ⟨b, off, rfl, hcells⟩ := Help.int_cells p4 p1
      have hnews : ∀ j u, (g.f3.map (Value.int .i64))[j]? = some u → W.cell? ((⟨b, off, none⟩ : Addr).add j) = some u := by
        intro j u hu
        rw [List.getElem?_map] at hu
        obtain ⟨y, hy, rfl⟩ := Option.map_eq_some_iff.1 hu
        obtain ⟨hj, rfl⟩ := List.getElem?_eq_some_iff.1 hy
        have hcj := hcells j hj
        rw [Addr.add_lit, (hB1.cell (World.block_lt_of_cell? w _ hcj)).trans hcj, List.getD_eq_getElem?_getD, List.getElem?_eq_getElem hj]
        rfl
      have hk := runs_le pre
      have cv := bv.cell
      have cX : W.cell? ⟨Bx, 3, none⟩ = some (.slice (some ⟨b, off, none⟩) g.f3.length c3) := by simp [World.cell?, bX]
      clear hcells
      have HN := Aside0.mk hnews
      have HNE := Aside0.mk hne
      clear hnews hne
      gi_wp2_with (gi_at_builtin; refine wpListIn_append_own_at _ rfl _ _ 27 rfl w.heap.size 3 i0 (.int .i64 0) 1 8 Try.underlying27 hi hz0 hz1 hz2 rfl (by decide) v _ _ rfl hrow ⟨b, off, none⟩ g.f3.length c3 (g.f3.map (Value.int .i64)) rfl (by simp) HN.out (by simp [Value.oneCell']) (by unfold maxLen; omega) (by omega) hB1.size ?_; intro v' w1 hown' hgrow _ hat; obtain ⟨g', cap', rfl, _, _⟩ := hown'.form (by omega); obtain ⟨hv1, hv2, hr2, hk2, hb2⟩ := appended0 bv (by decide) hrow hB1.size (Nat.le_refl _) hown' hgrow; have hc1 := hv1.cell; have hf1 := hv1.frozen)
      have hb3 : Boxed w1 (w.heap.size + 1 + 1) 3 (.int .i64 a1) := bT1.kept hgrow (fun e => HNE.out e.symm)
      have hb4 := hb3.kept (grownBy_setCell' w1 w.heap.size (.slice (some ⟨g', 0, none⟩) ((runsOf (ropes pre)).length + g.f3.length) cap')) (by simp; omega)
      refine ⟨hk2.from _, ⟨hb2, fun u hu => ?_⟩, ⟨⟨_, hv2, ?_, ?_⟩, hb4⟩, hB1.trans hb2⟩
      · have e1 := bT1.cell
        rw [hu] at e1
        injection e1 with e1
        subst e1
        exact hb4.cell
      · rw [RS.out, List.map_append, List.length_append]
        exact hr2
      · rcases hat with hat | hat
        · rw [hat]; exact HNE.out
        · rw [hat]
          have := bT1.lt
          intro e
          injection e with e
          omega
    case done =>
      rintro D ys W hD hS ⟨⟨⟨v, bv, hrow, hne⟩, bT1⟩, hB1⟩ hK
      have hlen : (runsOf (ropes ys)).length ≤ 1000000 := by
        have h1 := runs_le ys
        have h2 : ys.length ≤ 1000 := by
          have := congrArg List.length hS
          simp only [ropes, List.length_map] at this
          have h3 := List.length_filter_le (onB a1) l0
          omega
        omega
      have cv := bv.cell
      have HS := Aside0.mk hS
      have HK := Aside0.mk hK
      clear hS hK hne hls
      gi_wp2_with (first
        | (gi_at_call 34; refine (callsIn_wide.2 (Help.sort_own hrow (by omega))).mono ?_; rintro e w2 ⟨rfl, hg2, ho2⟩; have bv2 := bv.kept hg2 (bv.not_row (by decide) hrow); have cv2 := bv2.cell)
        | (gi_at_call 35; refine (callsIn_wide.2 (Help.compact_own (by rw [List.length_mergeSort]; exact ho2) (by rw [List.length_mergeSort]; omega))).mono ?_; rintro e w3 ⟨v3, rfl, hg3, hv3, ho3⟩))
      have hK2 : w2.heap[D]? = some (.deferred (some [])) := by
        refine (hg2.block D (Array.getElem?_eq_some_iff.1 HK.out).1 (fun e => ?_)).trans HK.out
        obtain ⟨cells, hc⟩ := own_typed hrow D e.symm
        rw [HK.out] at hc; cases hc
      have hK3 : w3.heap[D]? = some (.deferred (some [])) := by
        refine (hg3.block D (Array.getElem?_eq_some_iff.1 hK2).1 (fun e => ?_)).trans hK2
        obtain ⟨cells, hc⟩ := own_typed ho2 D e.symm
        rw [hK2] at hc; cases hc
      refine ⟨by simp, .inl ⟨_, _, rfl, run_takeDeferred hK3, ?_⟩⟩
      refine ⟨_, results_tmp rfl _ _ _, ?_⟩
      have ho4 := ownsRow_putObj ho3 (.deferred none) hK3 rfl
      rw [Help.compact_sort] at ho4
      have hB3 : Below w.heap.size w w3 := (hB1.grown hg2 hB1.size (own_base hrow)).grown hg3 (Nat.le_trans hB1.size hg2.size) (own_base ho2)
      refine ⟨v3, rfl, ?_, hB3.trans (belowK_b (w := w) (Nat.le_refl _) w3 D _ _ (by omega) hK3 rfl rfl)⟩
      rw [← HR.out, ← HS.out]
      exact Help.int_own ho4
    case stop =>
      rintro D c pre W _ _ h _
      exact h.elim
  · cases h
end Go.Proofs.Ytipnnihjkipnoaa.PAll
