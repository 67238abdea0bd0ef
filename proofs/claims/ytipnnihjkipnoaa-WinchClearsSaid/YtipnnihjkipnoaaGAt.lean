/- The iterator winch.at: the ropes that sweep at a time come one after the other, in order. -/
import Derived.Test.YtipnnihjkipnoaaPAllx0
import Derived.Test.YtipnnihjkipnoaaGHelp
import Derived.RangeFuncNested
import Derived.RangeFuncBound
import Derived.RangeFuncCalls
import Derived.RangeFuncLeaves
import Derived.Shelf.Abstract
import Derived.Shelf.RegionOpen
import Derived.OwnWalkIn
import Derived.TacticsInMore
import Derived.LoopNIn
import Derived.LoopIn
namespace Go.Proofs.Ytipnnihjkipnoaa.PAll
set_option linter.unusedVariables false
set_option linter.unusedSimpArgs false
open Go.RowKit Go.Shelf Go.Proofs.YtipnnihjkipnoaaW.PrintWords Go.Proofs.YtipnnihjkipnoaaW.PrintLast Go.Proofs.YtipnnihjkipnoaaW.PrintMore
attribute [local go_sem] Oper.semAt_some

def RopeAt (w : World) : Type := { p : S29 × Option Addr × Nat // 0 < p.1.f3.length ∧ p.1.f3.length ≤ 1000 ∧ p.1.f3.length ≤ p.2.2 ∧ Kd.C (Kd.int .i64) w p.2.1 p.1.f3.length p.1.f3 }
def ropeVal {w : World} (x : RopeAt w) : Value := .agg #[.int .i64 x.1.1.f0, .int .i64 x.1.1.f1, .int .i64 x.1.1.f2, .slice x.1.2.1 x.1.1.f3.length x.1.2.2]
def onB (t : Int) (s : S29) : Bool := decide (s.f1 ≤ t) && decide (t < s.f2)
def ropes {w : World} (l : List (RopeAt w)) : List S29 := l.map (fun x => x.1.1)
def KpT (n₀ Bt : Nat) (W W' : World) : Prop := Below n₀ W W' ∧ ∀ v, W.cell? ⟨Bt, 0, none⟩ = some v → W'.cell? ⟨Bt, 0, none⟩ = some v

set_option maxRecDepth 100000 in
set_option maxHeartbeats 4000000 in
theorem at1_in (F : Fence) (n : Nat) (h41 : F.fn 41) (hro : F.round = none) (hn : 1 ≤ n) (l Bl Bt : Nat) (w : World) (A : Option Addr) (c : Nat) (ls : List S29) (t : Int)
    (hC : Kd.C k29 w A ls.length ls) (hls : ∀ x ∈ ls, 0 < x.f3.length ∧ x.f3.length ≤ 1000) (J Jx : List (RopeAt w) → World → Prop) (W0 W : World) (hJa : AbidesFrom W0.heap.size J) (hW0 : W0.heap.size ≤ W.heap.size)
    (hY : ∀ pre x W1, J pre W1 → pre.length < ls.length → YieldAt F (n - 1) Try.prog l #[ropeVal x] W1 fun e W' =>
      (e = .returned (.bool true) ∧ J (pre ++ [x]) W' ∧ KpT w.heap.size Bt W1 W') ∨ (e = .returned (.bool false) ∧ Jx (pre ++ [x]) W'))
    (hb : Below w.heap.size w W) (hBl : W.cell? ⟨Bl, 0, none⟩ = some (.slice A ls.length c)) (hBt : W.cell? ⟨Bt, 0, none⟩ = some (.int .i64 t)) (h0 : J [] W) :
    CallsIn F n Try.prog 41 #[.func (.yield l) #[] #[], .pointer (some ⟨Bl, 0, none⟩), .pointer (some ⟨Bt, 0, none⟩)] W fun e W' => (∃ v, e = .returned v) ∧
      ((∃ ys, ropes ys = ls.filter (onB t) ∧ J ys W') ∨ (∃ pre, True ∧ Jx pre W')) := by
  have hu29 := Try.underlying29
  have hmax := Kd.C_max hC
  refine callsIn_of_wp Try.func41 rfl h41 ?_ hro
  simp only [Try.ntmps41, List.size_toArray, List.length_cons, List.length_nil, Nat.reduceAdd, Nat.reduceSub, Array.replicate_succ, Array.replicate_zero, List.push_toArray, List.append_toArray, List.nil_append, List.cons_append]
  gi_wp2
  gi_loopw [8] (fun i wr => ∃ (k : Nat) (pre : List (RopeAt w)), k ≤ ls.length ∧ i = .int .i64 k ∧ Aside0 (ropes pre = (ls.take k).filter (onB t)) ∧ J pre wr ∧ Below w.heap.size w wr ∧ wr.cell? ⟨Bt, 0, none⟩ = some (.int .i64 t))
    (fun i _ => ls.length - (intOf i).toNat)
  case atStart => exact ⟨0, [], Nat.zero_le _, rfl, ⟨rfl⟩, h0, hb, hBt⟩
  case round =>
    obtain ⟨k, pre, hk, rfl, hpre, hJs, hbr, hBt'⟩ := hrel
    by_cases hlt : k < ls.length
    · obtain ⟨ad, A3, c3, e, hx0, hx1, hx2, hx3, hl3, hi3⟩ := at_T29 hC (k : Int) (by omega) (by omega)
      subst e
      have hrd : rd_T29 ls (k : Int) = ls[k] := by simp [rd_T29, List.getD_eq_getElem?_getD, hlt]
      have hmem := hls (ls[k]) (List.getElem_mem hlt)
      rw [hrd] at hx0 hx1 hx2 hx3 hl3 hi3
      replace hx0 := (hbr.cell (World.block_lt_of_cell? w _ hx0)).trans hx0
      replace hx1 := (hbr.cell (World.block_lt_of_cell? w _ hx1)).trans hx1
      replace hx2 := (hbr.cell (World.block_lt_of_cell? w _ hx2)).trans hx2
      replace hx3 := (hbr.cell (World.block_lt_of_cell? w _ hx3)).trans hx3
      rw [Int.toNat_natCast] at hx0 hx1 hx2 hx3
      have hts : (ls.take (k + 1)).filter (onB t) = (ls.take k).filter (onB t) ++ (if onB t ls[k] then [ls[k]] else []) := by
        rw [List.take_succ_eq_append_getElem hlt, List.filter_append]
        by_cases h : onB t ls[k] <;> simp [h]
      obtain ⟨g, hg⟩ : ∃ g, g = ls[k] := ⟨_, rfl⟩
      rw [← hg] at hx0 hx1 hx2 hx3 hl3 hi3 hts hmem
      have hlen : pre.length ≤ k := by
        have := congrArg List.length hpre.out
        simp only [ropes, List.length_map] at this
        have h2 := List.length_filter_le (onB t) (ls.take k)
        have h3 := List.length_take_le k ls
        omega
      have HTS := Aside0.mk hts
      clear hg hts hrd
      have hB2 : (wr.alloc (.cells #[.int .i64 g.f0, .int .i64 g.f1, .int .i64 g.f2, .slice A3 g.f3.length c3] 29)).cell? ⟨Bt, 0, none⟩ = some (.int .i64 t) := pw_cell_below (below_alloc (Below.refl _ _) _) hBt'
      have hb2 : Below w.heap.size w (wr.alloc (.cells #[.int .i64 g.f0, .int .i64 g.f1, .int .i64 g.f2, .slice A3 g.f3.length c3] 29)) := below_alloc hbr _
      have HB2 := Aside0.mk hb2
      clear hb2
      by_cases h1 : g.f1 ≤ t
      · by_cases h2 : t < g.f2
        · have hJ1 : J pre (wr.alloc (.cells #[.int .i64 g.f0, .int .i64 g.f1, .int .i64 g.f2, .slice A3 g.f3.length c3] 29)) := hJa _ _ _ none hJs (World.grownBy_alloc _ _ _) (fun r e => by cases e)
          have hy0 := hY pre ⟨(g, A3, c3), hmem.1, hmem.2, hl3, hi3⟩ _ hJ1 (by omega)
          obtain ⟨fn, tmps, assign, body, hy, hR⟩ := hy0
          dsimp only [ropeVal] at hy
          have d1 : decide (g.f1 ≤ t) = true := decide_eq_true h1
          have d2 : decide (t < g.f2) = true := decide_eq_true h2
          clear hJ1 h1 h2
          gi_wp2
          refine hR.mono ?_
          rintro e W3 (⟨rfl, hJ3, hk3⟩ | ⟨rfl, hJx3⟩)
          · have hb3 := Aside0.mk (HB2.out.trans hk3.1)
            have hB3 := hk3.2 _ hB2
            have hk3' := Aside0.mk hk3
            clear hk3
            gi_wp2
            go_roundw
            case rel => exact ⟨k + 1, _, by omega, by go_num, ⟨by rw [HTS.out, if_pos (by simp [onB, d1, d2])]; simp only [ropes, List.map_append, List.map_cons, List.map_nil]; rw [← hpre.out]; rfl⟩, hJ3, hb3.out, hB3⟩
            case measure => simp [intOf]; omega
          · gi_wp2
            refine bodyPost_ret (results_none rfl _ _ _) rfl ?_
            exact ⟨⟨_, rfl⟩, .inr ⟨_, trivial, hJx3⟩⟩
        · have hJ1 : J pre (wr.alloc (.cells #[.int .i64 g.f0, .int .i64 g.f1, .int .i64 g.f2, .slice A3 g.f3.length c3] 29)) := hJa _ _ _ none hJs (World.grownBy_alloc _ _ _) (fun r e => by cases e)
          have d1 : decide (g.f1 ≤ t) = true := decide_eq_true h1
          have d2 : decide (t < g.f2) = false := decide_eq_false h2
          clear h1 h2
          gi_wp2
          refine ⟨fun _ h => (by cases h), ?_⟩
          gi_wp2
          go_roundw
          case rel => exact ⟨k + 1, pre, by omega, by go_num, ⟨by rw [HTS.out, if_neg (by simp [onB, d1, d2]), List.append_nil]; exact hpre.out⟩, hJ1, HB2.out, hB2⟩
          case measure => simp [intOf]; omega
      · have hJ1 : J pre (wr.alloc (.cells #[.int .i64 g.f0, .int .i64 g.f1, .int .i64 g.f2, .slice A3 g.f3.length c3] 29)) := hJa _ _ _ none hJs (World.grownBy_alloc _ _ _) (fun r e => by cases e)
        have d1 : decide (g.f1 ≤ t) = false := decide_eq_false h1
        clear h1
        gi_wp2
        refine ⟨fun _ h => (by cases h), ?_⟩
        gi_wp2
        go_roundw
        case rel => exact ⟨k + 1, pre, by omega, by go_num, ⟨by rw [HTS.out, if_neg (by simp [onB, d1]), List.append_nil]; exact hpre.out⟩, hJ1, HB2.out, hB2⟩
        case measure => simp [intOf]; omega
    · obtain rfl : k = ls.length := by omega
      gi_wp2
      go_end0
      exact ⟨⟨_, rfl⟩, .inl ⟨pre, by rw [hpre.out, List.take_length], hJs⟩⟩

set_option maxRecDepth 100000 in
set_option maxHeartbeats 1000000 in
/-- winch.at: the ropes and the time are boxed; the function value captures the boxes. -/
theorem at_in (F : Fence) (n : Nat) (h33 : F.fn 33) (hro : F.round = none) (A : Option Addr) (len c : Nat) (t : Int) (w : World) :
    CallsIn F n Try.prog 33 #[.slice A len c, .int .i64 t] w fun e w' => e = .returned (.func (.func 41) #[] #[.pointer (some ⟨w.heap.size, 0, none⟩), .pointer (some ⟨w.heap.size + 1, 0, none⟩)]) ∧
      w' = (w.alloc (.cells #[.slice A len c] 22)).alloc (.cells #[.int .i64 t] 3) := by
  refine callsIn_of_wp Try.func33 rfl h33 ?_ hro
  simp only [Try.ntmps33, List.size_toArray, List.length_cons, List.length_nil, Nat.reduceAdd, Nat.reduceSub, Array.replicate_succ, Array.replicate_zero, List.push_toArray, List.append_toArray, List.nil_append, List.cons_append]
  gi_wp2
  go_ret
  exact ⟨rfl, rfl⟩

/-- The iterator, as the loops' law asks it. -/
theorem at_stops (F : Fence) (n : Nat) (h41 : F.fn 41) (hro : F.round = none) (hn : 1 ≤ n) (Bl Bt : Nat) (w wb : World) (A : Option Addr) (c : Nat) (ls : List S29) (t : Int)
    (hC : Kd.C k29 w A ls.length ls) (hls : ∀ x ∈ ls, 0 < x.f3.length ∧ x.f3.length ≤ 1000) (hb : Below w.heap.size w wb) (hsz : w.heap.size ≤ wb.heap.size)
    (hBl : wb.cell? ⟨Bl, 0, none⟩ = some (.slice A ls.length c)) (hBt : wb.cell? ⟨Bt, 0, none⟩ = some (.int .i64 t)) :
    SeqStopsK F n Try.prog 41 #[.pointer (some ⟨Bl, 0, none⟩), .pointer (some ⟨Bt, 0, none⟩)] (fun x : RopeAt w => #[ropeVal x]) (KpT w.heap.size Bt) (fun ys => ropes ys = ls.filter (onB t)) (fun _ => True) ls.length wb := fun l J Jx W hW hJ _ hY h0 => by
  have h1 := (hW.cell (World.block_lt_of_cell? wb _ hBl)).trans hBl
  have h2 := (hW.cell (World.block_lt_of_cell? wb _ hBt)).trans hBt
  exact at1_in F n h41 hro hn l Bl Bt w A c ls t hC hls J Jx W W hJ (Nat.le_refl _) hY (hb.trans (hW.mono hsz)) h1 h2 h0
end Go.Proofs.Ytipnnihjkipnoaa.PAll
