/- The reference's Change over lists that are only read, and the law RevokeChanges over it, walked by hand. -/
import Derived.Test.YtedjibjmbgllkaaPAllx11
import Derived.Test.YtedjibjmbgllkaaPAllx2
import Derived.Test.YtedjibjmbgllkaaPAllx4
import Derived.Test.YtedjibjmbgllkaaPAllx8
import Derived.Test.YtedjibjmbgllkaaPAllx9
import Derived.Test.YtedjibjmbgllkaaUWith
import Derived.Test.YtedjibjmbgllkaaUChange
import Derived.Test.YtedjibjmbgllkaaGAlive
import Derived.Test.YtedjibjmbgllkaaPChgx1
namespace Go.Proofs.Ytedjibjmbgllkaa.PHand
open Go.RowKit Go.Proofs.Ytedjibjmbgllkaa.PAll Go.Proofs.YtedjibjmbgllkaaW.PrintWords Go.Proofs.YtedjibjmbgllkaaW.PrintLast Go.Proofs.YtedjibjmbgllkaaW.PrintMore
open Go.Proofs.Ytedjibjmbgllkaa.Pure (wr1 wr_small rd_nat Ev.cg ev_some changeS newL)
set_option linter.unusedVariables false
set_option linter.unusedSimpArgs false
theorem sameF_l0 (a b : List Int) (hl : a.length = b.length) (hb : a.length ≤ 1000000) : ∀ (d i : Nat), i + d = a.length → Ev (fun k => PChg.skiarearef27_same.l0 k a b i) (decide (a.drop i = b.drop i)) := by
  intro d
  induction d with
  | zero =>
    intro i hi
    rw [List.drop_of_length_le (by omega), List.drop_of_length_le (by omega)]
    exact Ev.step (f := fun _ => some true) (fun k => by simp only [PChg.skiarearef27_same.l0]; rw [if_neg (by omega)]) (Ev.now _)
  | succ d ih =>
    intro i hi
    have h1 : i < a.length := by omega
    have h2 : i < b.length := by omega
    rw [List.drop_eq_getElem_cons h1, List.drop_eq_getElem_cons h2]
    by_cases e : a[i] = b[i]
    · refine Ev.step (f := fun k => PChg.skiarearef27_same.l0 k a b ((i + 1 : Nat) : Int)) (fun k => by simp only [PChg.skiarearef27_same.l0]; rw [if_pos (by omega), if_pos (by omega), if_pos (by omega), rd_nat _ _ h1, rd_nat _ _ h2, if_pos e, wr1 (by omega)]) ?_
      have := ih (i + 1) (by omega)
      rwa [decide_eq_decide.2 (show (a[i] :: a.drop (i + 1) = b[i] :: b.drop (i + 1)) ↔ (a.drop (i + 1) = b.drop (i + 1)) from ⟨fun h => (List.cons.inj h).2, fun h => by rw [e, h]⟩)]
    · refine Ev.step (f := fun _ => some false) (fun k => by simp only [PChg.skiarearef27_same.l0]; rw [if_pos (by omega), if_pos (by omega), if_pos (by omega), rd_nat _ _ h1, rd_nat _ _ h2, if_neg e]) (ev_some ?_)
      exact (decide_eq_false (fun h => e (List.cons.inj h).1)).symm
theorem sameF (a b : List Int) (hb : a.length ≤ 1000000) : Ev (fun k => PChg.skiarearef27_same.f k a b) (decide (a = b)) := by
  by_cases e : a.length = b.length
  · have := sameF_l0 a b e hb a.length 0 (by omega)
    rw [List.drop_zero, List.drop_zero] at this
    exact Ev.cg this (fun k => by simp only [PChg.skiarearef27_same.f]; rw [if_pos (by omega)]; rfl)
  · refine Ev.cg (f := fun _ => some false) (ev_some ?_) (fun k => by simp only [PChg.skiarearef27_same.f]; rw [if_neg (by omega)])
    exact (decide_eq_false (fun h => e (by rw [h]))).symm
theorem c_sameF (W : World) (A A' : Option Addr) (c c' : Nat) (a b : List Int) (hb : a.length ≤ 1000000) (h : Ints W A c a.length a) (h' : Ints W A' c' b.length b) :
    Calls Try.prog 35 #[.slice A a.length c, .slice A' b.length c'] W fun e w' => e = .returned (.bool (decide (a = b))) ∧ Below W.heap.size W w' := by
  obtain ⟨k, hk⟩ := Ev.rounds (sameF a b hb)
  refine (PChg.skiarearef27_same.calls k A c a A' c' b _ W h.1 h.2 h'.1 h'.2 hk).mono ?_
  rintro e w' ⟨rfl, ⟨nd, rfl⟩⟩
  exact ⟨rfl, pw_below_drewN (Below.refl _ _) _⟩
theorem ints_of {W : World} {base : Nat} {ok : Nat → Prop} {v : Value} {l : List Int} (h : Kd.R (Kd.int .i64) 3 W base ok v l) : ∃ A c, v = .slice A l.length c ∧ Ints W A c l.length l := by
  obtain ⟨A, c, rfl⟩ := Kd.R_slice h
  exact ⟨A, c, rfl, (Kd.R_reads' h).2.2, (Kd.R_reads' h).2.1⟩
theorem c_with (W : World) (A A' : Option Addr) (c c' : Nat) (a b q : List Int) (hq : q = Help.sset (a ++ b)) (ha : a.length ≤ 10000) (hb : b.length ≤ 10000) (h : Ints W A c a.length a) (h' : Ints W A' c' b.length b) :
    Calls Try.prog 33 #[.slice A a.length c, .slice A' b.length c'] W fun e w' => ∃ A2 c2, e = .returned (.slice A2 q.length c2) ∧ Ints w' A2 c2 q.length q ∧ RR w' (.slice A2 q.length c2) q ∧ Below W.heap.size W w' := by
  subst hq
  obtain ⟨k, hk⟩ := Ev.rounds (Pure.withR a b ha hb)
  refine (skiarearef27_with.calls k A c a A' c' b _ W h.1 h.2 h'.1 h'.2 hk).mono ?_
  rintro e w' ⟨v, rfl, hR, hB⟩
  obtain ⟨A2, c2, rfl, hI⟩ := ints_of hR
  exact ⟨A2, c2, rfl, hI, ⟨_, _, hR⟩, hB⟩
theorem RR.far24 {W : World} {v : Value} {l : List Int} {g : Nat} {cs : Array Value} (h : RR W v l) (hx : W.heap[g]? = some (.cells cs 24 (0, 0))) (j : Nat) (u : Value) : RR (W.setCell ⟨g, j, none⟩ u) v l := by
  obtain ⟨b, ok, h⟩ := h
  exact ⟨b, _, Kd.R_far (p := ⟨g, j, none⟩) (Kd.R_types h hx (by decide)) (fun _ hk => hk.2) u⟩
theorem c_without (W : World) (A A' : Option Addr) (c c' : Nat) (a b q : List Int) (hq : q = Help.sset (Pure.minusS a b)) (ha : a.length ≤ 10000) (hb : b.length ≤ 10000) (h : Ints W A c a.length a) (h' : Ints W A' c' b.length b) :
    Calls Try.prog 34 #[.slice A a.length c, .slice A' b.length c'] W fun e w' => ∃ A2 c2, e = .returned (.slice A2 q.length c2) ∧ Ints w' A2 c2 q.length q ∧ Below W.heap.size W w' := by
  subst hq
  obtain ⟨k, hk⟩ := Ev.rounds (Pure.withoutR a b (by omega) (by omega))
  refine (skiarearef27_without.calls k A c a A' c' b _ W h.1 h.2 h'.1 h'.2 hk).mono ?_
  rintro e w' ⟨v, rfl, hR, hB⟩
  obtain ⟨A2, c2, rfl, hI⟩ := ints_of hR
  exact ⟨A2, c2, rfl, hI, hB⟩
theorem c_serial (n : Int) (b : Bool) (hb : badNo n = b) (W : World) : Calls Try.prog 28 #[.int .i64 n] W fun e w' => e = .returned (.bool (!b)) ∧ Below W.heap.size W w' := by
  subst hb
  refine (skiarearef27_serial.calls n _ W (Pure.serial_eq n)).mono ?_
  rintro e w' ⟨rfl, ⟨nd, rfl⟩⟩
  exact ⟨rfl, pw_below_drewN (Below.refl _ _) _⟩
/-- What the loop keeps: the argument's variable, the result's, and the list of all numbers. -/
structure FX (W wr : World) (g3 g6 : Nat) (v : Int) (A : Option Addr) (n c : Nat) : Prop where
  below : Below W.heap.size W wr
  box : wr.heap[g3]? = some (.cells #[.int .i64 v, .slice A n c] 24 (0, 0))
  res : wr.heap[g6]? = some (.cells #[.int .i64 0, .slice none 0 0] 24 (0, 0))
  ge : W.heap.size ≤ g6
theorem FX.on {W wr w' : World} {g3 g6 : Nat} {v : Int} {A : Option Addr} {n c : Nat} (h : FX W wr g3 g6 v A n c) (hb : Below wr.heap.size wr w') : FX W w' g3 g6 v A n c :=
  ⟨h.below.trans (hb.mono h.below.size), blk_below h.box hb, blk_below h.res hb, h.ge⟩
theorem FX.r0 {W wr : World} {g3 g6 : Nat} {v : Int} {A : Option Addr} {n c : Nat} (h : FX W wr g3 g6 v A n c) : wr.cell? ⟨g6, 0, none⟩ = some (.int .i64 0) := blk_cell h.res 0
theorem FX.r1 {W wr : World} {g3 g6 : Nat} {v : Int} {A : Option Addr} {n c : Nat} (h : FX W wr g3 g6 v A n c) : wr.cell? ⟨g6, 1, none⟩ = some (.slice none 0 0) := blk_cell h.res 1
theorem FX.f0 {W wr : World} {g3 g6 : Nat} {v : Int} {A : Option Addr} {n c : Nat} (h : FX W wr g3 g6 v A n c) : wr.frozen? ⟨g6, 0, none⟩ = false := blk_frozen h.res 0
theorem FX.f1 {W wr : World} {g3 g6 : Nat} {v : Int} {A : Option Addr} {n c : Nat} (h : FX W wr g3 g6 v A n c) : wr.frozen? ⟨g6, 1, none⟩ = false := blk_frozen h.res 1
theorem FX.b0 {W wr : World} {g3 g6 : Nat} {v : Int} {A : Option Addr} {n c : Nat} (h : FX W wr g3 g6 v A n c) : wr.cell? ⟨g3, 0, none⟩ = some (.int .i64 v) := blk_cell h.box 0
theorem FX.b1 {W wr : World} {g3 g6 : Nat} {v : Int} {A : Option Addr} {n c : Nat} (h : FX W wr g3 g6 v A n c) : wr.cell? ⟨g3, 1, none⟩ = some (.slice A n c) := blk_cell h.box 1
theorem FX.put {W wr : World} {g3 g6 : Nat} {v : Int} {A : Option Addr} {n c : Nat} (h : FX W wr g3 g6 v A n c) (x y : Value) : ((wr.setCell ⟨g6, 0, none⟩ x).setCell ⟨g6, 1, none⟩ y).heap[g6]? = some (.cells #[x, y] 24 (0, 0)) :=
  blk_put (cs' := #[x, y]) (blk_put (cs' := #[x, .slice none 0 0]) h.res 0 x rfl) 1 y rfl
theorem FX.stored {W wr : World} {g3 g6 : Nat} {v : Int} {A : Option Addr} {n c : Nat} (h : FX W wr g3 g6 v A n c) (x y : Value) : Below W.heap.size W ((wr.setCell ⟨g6, 0, none⟩ x).setCell ⟨g6, 1, none⟩ y) := below_set (below_set h.below h.ge) h.ge
theorem with_eq (l add drop : List Int) : Help.sset (Help.sset (Pure.minusS l drop) ++ add) = newL l add drop := by
  refine Help.inc_ext _ _ (Help.inc_sset _) (Pure.inc_new l add drop) (fun z => ?_)
  rw [Pure.mem_new, Help.mem_sset, List.mem_append, Help.mem_sset, Pure.mem_minus]
theorem bad_any (add drop all : List Int) (h : all = Help.sset (add ++ drop)) : (∃ x ∈ all, badNo x = true) ↔ (add.any badNo = true ∨ drop.any badNo = true) := by
  subst h
  rw [List.any_eq_true, List.any_eq_true]
  constructor
  · rintro ⟨x, hx, hb⟩
    rw [Help.mem_sset, List.mem_append] at hx
    rcases hx with hx | hx
    · exact .inl ⟨x, hx, hb⟩
    · exact .inr ⟨x, hx, hb⟩
  · rintro (⟨x, hx, hb⟩ | ⟨x, hx, hb⟩)
    · exact ⟨x, by rw [Help.mem_sset, List.mem_append]; exact .inl hx, hb⟩
    · exact ⟨x, by rw [Help.mem_sset, List.mem_append]; exact .inr hx, hb⟩
theorem c_sameB (W : World) (A A' : Option Addr) (c c' : Nat) (a b : List Int) (r : Bool) (hr : decide (a = b) = r) (hb : a.length ≤ 1000000) (h : Ints W A c a.length a) (h' : Ints W A' c' b.length b) :
    Calls Try.prog 35 #[.slice A a.length c, .slice A' b.length c'] W fun e w' => e = .returned (.bool r) ∧ Below W.heap.size W w' := by
  subst hr
  exact c_sameF W A A' c c' a b hb h h'
set_option maxRecDepth 100000 in
set_option maxHeartbeats 1000000 in
theorem c_ref (v : Int) (l add drop : List Int) (W : World) (A Aa Ad : Option Addr) (c ca cd : Nat) (hv : 0 ≤ v ∧ v ≤ 1000000) (hl : l.length ≤ 1000) (hal : add.length ≤ 1000) (hdl : drop.length ≤ 1000) (hI : Ints W A c l.length l) (ha : Ints W Aa ca add.length add) (hd : Ints W Ad cd drop.length drop) :
    Calls Try.prog 17 #[.agg #[.int .i64 v, .slice A l.length c], .slice Aa add.length ca, .slice Ad drop.length cd] W fun e w' => ∃ A' c', e = .returned (.tuple #[.agg #[.int .i64 (changeS v l add drop).1, .slice A' (changeS v l add drop).2.1.length c'], .int .i64 (changeS v l add drop).2.2]) ∧ Ints w' A' c' (changeS v l add drop).2.1.length (changeS v l add drop).2.1 ∧ Below W.heap.size W w' := by
  have hu24 := Try.underlying24
  obtain ⟨all, hall⟩ : ∃ q, q = Help.sset (add ++ drop) := ⟨_, rfl⟩
  have hallL : all.length ≤ 2000 := by rw [hall]; have := Pure.sset_len_le (add ++ drop); rw [List.length_append] at this; omega
  have HI := Aside0.mk hI
  have HA := Aside0.mk ha
  have HD := Aside0.mk hd
  have HALL := Aside0.mk hall
  have HV := Aside0.mk hv
  obtain ⟨cs, hcs⟩ : ∃ cs, cs = changeS v l add drop := ⟨_, rfl⟩
  rw [← hcs]
  have HCS := Aside0.mk hcs
  clear hI ha hd hall hv hcs
  go_enter Try.func17, Try.ntmps17
  go_wp2_with (first
    | ((with_reducible refine gate_dst (N := 3) rfl ?_); refine box_event ?hg (N := 3) ?hd (cs := #[.int .i64 v, .slice A l.length c]) (t := 24) ?hr ?_; (case hd => rfl); (case hg => rfl); (case hr => first | (go_simp; done) | (go_simp; rfl)); intro g3 hg3 w1 hbox hb1; have B3 := Aside0.mk hbox; have HB1 := Aside0.mk hb1; clear hbox hb1 hg3)
    | ((with_reducible refine gate_dst (N := 6) rfl ?_); refine box_event ?hg (N := 6) ?hd (cs := #[.int .i64 0, .slice none 0 0]) (t := 24) ?hr ?_; (case hd => rfl); (case hg => rfl); (case hr => first | (go_simp; done) | (go_simp; rfl)); intro g6 hg6 w2 hbox hb2; have HF := Aside0.mk (show FX W w2 g3 g6 v A l.length c from ⟨HB1.out.trans (hb2.mono HB1.out.size), blk_below B3.out hb2, hbox, by rw [hg6]; exact HB1.out.size⟩); have HNE := Aside0.mk (show g3 ≠ g6 by rw [hg6]; exact Nat.ne_of_lt (blk_lt B3.out)); clear hbox hb2 hg6)
    | (go_at_call 33; (with_reducible refine (c_with _ _ _ _ _ add drop all HALL.out (by omega) (by omega) (HA.out.below HF.out.below) (HD.out.below HF.out.below)).mono ?_); rintro e w3 ⟨Al, cl, rfl, hIl, _, hb3⟩; have HL := Aside0.mk hIl; have n_ := Aside0.mk (HF.out.on hb3); clear HF; have HF := n_; clear n_ hIl hb3))
  go_loopg [9] all.length (fun gg s9 wr => ∃ i : Nat, i ≤ all.length ∧ all.length - i ≤ gg ∧ s9 = .int .i64 (i : Int) ∧ Aside0 (∀ x ∈ all.take i, badNo x = false) ∧ Aside0 (FX W wr g3 g6 v A l.length c) ∧ Aside0 (Ints wr Al cl all.length all))
  case atStart => exact ⟨0, Nat.zero_le _, by omega, rfl, ⟨by simp⟩, HF, HL⟩
  case round =>
    obtain ⟨i, hi, hg, rfl, HB0, HFl, HLl⟩ := hrel
    clear HF HL
    by_cases hlt : i < all.length
    · have hltz : (i : Int) < (all.length : Int) := by omega
      obtain ⟨ad, ead, hx⟩ := Kd.at_int HLl.out.1 (i : Int) (by omega) (by omega)
      subst ead
      have hrd : rd all (i : Int) = all[i] := rd_nat _ _ hlt
      rw [hrd, Int.toNat_natCast] at hx
      obtain ⟨x, hxe⟩ : ∃ x, x = all[i] := ⟨_, rfl⟩
      rw [← hxe] at hx
      have HXE := Aside0.mk hxe
      clear hrd hxe
      cases hbad : badNo x with
      | true =>
        have hcs : cs = (0, [], 2) := by
          rw [HCS.out]
          unfold changeS
          rw [if_pos ((bad_any add drop all HALL.out).1 ⟨x, by rw [HXE.out]; exact List.getElem_mem hlt, hbad⟩)]
        subst hcs
        have HBX := Aside0.mk hbad
        clear hbad
        go_wp2_with (go_at_call 28; (with_reducible refine (c_serial x true HBX.out _).mono ?_); rintro e w4 ⟨rfl, hb4⟩; have n_ := Aside0.mk (HFl.out.on hb4); clear HFl; have HFl := n_; clear n_; clear hb4; have hs0 := HFl.out.r0; have hs1 := HFl.out.r1; have hf0 := HFl.out.f0; have hf1 := HFl.out.f1)
        refine bodyPost_ret (results_ct rfl _ _ g6 24 #[.int .i64 0, .slice none 0 0] (0, 0) _ rfl (HFl.out.put _ _) Try.underlying24 rfl (by kernel_rfl)) rfl ?_
        exact ⟨none, 0, rfl, Ints.nil _, HFl.out.stored _ _⟩
      | false =>
        have HBX := Aside0.mk hbad
        clear hbad
        go_wp2_with (go_at_call 28; (with_reducible refine (c_serial x false HBX.out _).mono ?_); rintro e w4 ⟨rfl, hb4⟩; have n_ := Aside0.mk (HFl.out.on hb4); clear HFl; have HFl := n_; clear n_; have m_ := Aside0.mk (HLl.out.below hb4); clear HLl; have HLl := m_; clear m_ hb4)
        go_roundg (all.length - (i + 1))
        case measure => omega
        case rel =>
          refine ⟨i + 1, by omega, by omega, by go_num, ⟨fun y hy => ?_⟩, HFl, HLl⟩
          rw [List.take_succ_eq_append_getElem hlt] at hy
          rcases List.mem_append.1 hy with h | h
          · exact HB0.out y h
          · rw [List.mem_singleton.1 h, ← HXE.out]; exact HBX.out
    · have hltz : ¬ (i : Int) < (all.length : Int) := by omega
      obtain rfl : i = all.length := by omega
      rw [List.take_length] at HB0
      have hno : ¬ (add.any badNo = true ∨ drop.any badNo = true) := fun h => by
        obtain ⟨x, hx, hb⟩ := (bad_any add drop all HALL.out).2 h
        rw [HB0.out x hx] at hb
        cases hb
      have hcs := HCS.out
      unfold changeS at hcs
      rw [if_neg hno] at hcs
      clear hno HB0 HCS
      obtain ⟨m, hm⟩ : ∃ m, m = Help.sset (Pure.minusS l drop) := ⟨_, rfl⟩
      have hml : m.length ≤ 1000 := by rw [hm]; have h1 := Pure.sset_len_le (Pure.minusS l drop); have h2 := Pure.minus_len l drop; omega
      obtain ⟨q, hq⟩ : ∃ q, q = newL l add drop := ⟨_, rfl⟩
      have hql : q.length ≤ 2000 := by rw [hq]; have := Pure.new_len l add drop; omega
      rw [← hq] at hcs
      have HM := Aside0.mk hm
      have HQ := Aside0.mk (show q = Help.sset (m ++ add) by rw [hq, hm, with_eq])
      clear hm hq
      have hb0 := HFl.out.b0
      have hb1 := HFl.out.b1
      by_cases e1 : q = l
      · rw [if_pos e1] at hcs
        have HE := Aside0.mk e1
        clear e1
        subst hcs
        go_wp2_with (first
          | (go_at_call 34; (with_reducible refine (c_without _ _ _ _ _ l drop m HM.out (by omega) (by omega) (HI.out.below HFl.out.below) (HD.out.below HFl.out.below)).mono ?_); rintro e w4 ⟨Am, cm, rfl, hIm, hb4⟩; have HMI := Aside0.mk hIm; have n_ := Aside0.mk (HFl.out.on hb4); clear HFl; have HFl := n_; clear n_; clear hIm hb4)
          | (go_at_call 33; (with_reducible refine (c_with _ _ _ _ _ m add q HQ.out (by omega) (by omega) HMI.out (HA.out.below HFl.out.below)).mono ?_); rintro e w5 ⟨Aq, cq, rfl, hIq, hRq, hb4⟩; have HQI := Aside0.mk hIq; have HQR := Aside0.mk hRq; have n_ := Aside0.mk (HFl.out.on hb4); clear HFl; have HFl := n_; clear n_; clear hIq hRq hb4; have hb0 := HFl.out.b0; have hb1 := HFl.out.b1)
          | (go_at_call 35; (with_reducible refine (c_sameB _ _ _ _ _ q l true (decide_eq_true HE.out) (by omega) HQI.out (HI.out.below HFl.out.below)).mono ?_); rintro e w6 ⟨rfl, hb4⟩; have n_ := Aside0.mk (HFl.out.on hb4); clear HFl; have HFl := n_; clear n_; clear hb4; have hb0 := HFl.out.b0; have hb1 := HFl.out.b1; have hs0 := HFl.out.r0; have hs1 := HFl.out.r1; have hf0 := HFl.out.f0; have hf1 := HFl.out.f1))
        refine bodyPost_ret (results_ct rfl _ _ g6 24 #[.int .i64 v, .slice A l.length c] (0, 0) _ rfl (HFl.out.put _ _) Try.underlying24 rfl (by kernel_rfl)) rfl ?_
        have hst := HFl.out.stored (.int .i64 v) (.slice A l.length c)
        refine ⟨A, c, ?_, ?_, hst⟩
        · show Ending.returned _ = Ending.returned _
          rw [HE.out]
          rfl
        · show Ints _ A c q.length q
          rw [HE.out]
          exact HI.out.below hst
      · rw [if_neg e1] at hcs
        have HE := Aside0.mk e1
        clear e1
        by_cases e2 : v ≥ 1000000
        · rw [if_pos e2] at hcs
          subst hcs
          go_wp2_with (first
            | (go_at_call 34; (with_reducible refine (c_without _ _ _ _ _ l drop m HM.out (by omega) (by omega) (HI.out.below HFl.out.below) (HD.out.below HFl.out.below)).mono ?_); rintro e w4 ⟨Am, cm, rfl, hIm, hb4⟩; have HMI := Aside0.mk hIm; have n_ := Aside0.mk (HFl.out.on hb4); clear HFl; have HFl := n_; clear n_; clear hIm hb4)
            | (go_at_call 33; (with_reducible refine (c_with _ _ _ _ _ m add q HQ.out (by omega) (by omega) HMI.out (HA.out.below HFl.out.below)).mono ?_); rintro e w5 ⟨Aq, cq, rfl, hIq, hRq, hb4⟩; have HQI := Aside0.mk hIq; have HQR := Aside0.mk hRq; have n_ := Aside0.mk (HFl.out.on hb4); clear HFl; have HFl := n_; clear n_; clear hIq hRq hb4; have hb0 := HFl.out.b0; have hb1 := HFl.out.b1)
            | (go_at_call 35; (with_reducible refine (c_sameB _ _ _ _ _ q l false (decide_eq_false HE.out) (by omega) HQI.out (HI.out.below HFl.out.below)).mono ?_); rintro e w6 ⟨rfl, hb4⟩; have n_ := Aside0.mk (HFl.out.on hb4); clear HFl; have HFl := n_; clear n_; clear hb4; have hb0 := HFl.out.b0; have hb1 := HFl.out.b1; have hs0 := HFl.out.r0; have hs1 := HFl.out.r1; have hf0 := HFl.out.f0; have hf1 := HFl.out.f1))
          refine bodyPost_ret (results_ct rfl _ _ g6 24 #[.int .i64 0, .slice none 0 0] (0, 0) _ rfl (HFl.out.put _ _) Try.underlying24 rfl (by kernel_rfl)) rfl ?_
          exact ⟨none, 0, rfl, Ints.nil _, HFl.out.stored _ _⟩
        · rw [if_neg e2] at hcs
          by_cases e3 : q.length > 200
          · rw [if_pos e3] at hcs
            have e3z : (q.length : Int) > 200 := by omega
            subst hcs
            go_wp2_with (first
              | (go_at_call 34; (with_reducible refine (c_without _ _ _ _ _ l drop m HM.out (by omega) (by omega) (HI.out.below HFl.out.below) (HD.out.below HFl.out.below)).mono ?_); rintro e w4 ⟨Am, cm, rfl, hIm, hb4⟩; have HMI := Aside0.mk hIm; have n_ := Aside0.mk (HFl.out.on hb4); clear HFl; have HFl := n_; clear n_; clear hIm hb4)
              | (go_at_call 33; (with_reducible refine (c_with _ _ _ _ _ m add q HQ.out (by omega) (by omega) HMI.out (HA.out.below HFl.out.below)).mono ?_); rintro e w5 ⟨Aq, cq, rfl, hIq, hRq, hb4⟩; have HQI := Aside0.mk hIq; have HQR := Aside0.mk hRq; have n_ := Aside0.mk (HFl.out.on hb4); clear HFl; have HFl := n_; clear n_; clear hIq hRq hb4; have hb0 := HFl.out.b0; have hb1 := HFl.out.b1)
              | (go_at_call 35; (with_reducible refine (c_sameB _ _ _ _ _ q l false (decide_eq_false HE.out) (by omega) HQI.out (HI.out.below HFl.out.below)).mono ?_); rintro e w6 ⟨rfl, hb4⟩; have n_ := Aside0.mk (HFl.out.on hb4); clear HFl; have HFl := n_; clear n_; clear hb4; have hb0 := HFl.out.b0; have hb1 := HFl.out.b1; have hs0 := HFl.out.r0; have hs1 := HFl.out.r1; have hf0 := HFl.out.f0; have hf1 := HFl.out.f1))
            refine bodyPost_ret (results_ct rfl _ _ g6 24 #[.int .i64 0, .slice none 0 0] (0, 0) _ rfl (HFl.out.put _ _) Try.underlying24 rfl (by kernel_rfl)) rfl ?_
            exact ⟨none, 0, rfl, Ints.nil _, HFl.out.stored _ _⟩
          · rw [if_neg e3] at hcs
            have e3z : ¬ (q.length : Int) > 200 := by omega
            have hwv : wrap64 (v + 1) = v + 1 := wr_small (by have := HV.out; omega) (by omega)
            subst hcs
            go_wp2_with (first
              | (go_at_call 34; (with_reducible refine (c_without _ _ _ _ _ l drop m HM.out (by omega) (by omega) (HI.out.below HFl.out.below) (HD.out.below HFl.out.below)).mono ?_); rintro e w4 ⟨Am, cm, rfl, hIm, hb4⟩; have HMI := Aside0.mk hIm; have n_ := Aside0.mk (HFl.out.on hb4); clear HFl; have HFl := n_; clear n_; clear hIm hb4)
              | (go_at_call 33; (with_reducible refine (c_with _ _ _ _ _ m add q HQ.out (by omega) (by omega) HMI.out (HA.out.below HFl.out.below)).mono ?_); rintro e w5 ⟨Aq, cq, rfl, hIq, hRq, hb4⟩; have HQI := Aside0.mk hIq; have HQR := Aside0.mk hRq; have n_ := Aside0.mk (HFl.out.on hb4); clear HFl; have HFl := n_; clear n_; clear hIq hRq hb4; have hb0 := HFl.out.b0; have hb1 := HFl.out.b1)
              | (go_at_call 35; (with_reducible refine (c_sameB _ _ _ _ _ q l false (decide_eq_false HE.out) (by omega) HQI.out (HI.out.below HFl.out.below)).mono ?_); rintro e w6 ⟨rfl, hb4⟩; have n_ := Aside0.mk (HFl.out.on hb4); clear HFl; have HFl := n_; clear n_; have m_ := Aside0.mk (HQR.out.below hb4); clear HQR; have HQR := m_; clear m_ hb4; have hb0 := HFl.out.b0; have hb1 := HFl.out.b1; have hs0 := HFl.out.r0; have hs1 := HFl.out.r1; have hf0 := HFl.out.f0; have hf1 := HFl.out.f1))
            refine bodyPost_ret (results_ct rfl _ _ g6 24 #[.int .i64 (v + 1), .slice Aq q.length cq] (0, 0) _ rfl (HFl.out.put _ _) Try.underlying24 rfl (by kernel_rfl)) rfl ?_
            refine ⟨Aq, cq, rfl, ?_, HFl.out.stored _ _⟩
            exact (RR.far24 (RR.far24 HQR.out HFl.out.res 0 _) (blk_put (cs' := #[.int .i64 (v + 1), .slice none 0 0]) HFl.out.res 0 (.int .i64 (v + 1)) rfl) 1 _).ints rfl
/-! ### the law -/
theorem _root_.Go.Proofs.Ytedjibjmbgllkaa.PAll.RV.v0 {W : World} {g : Nat} {v : Int} {n : Nat} {A : Option Addr} {c : Nat} {l : List Int} (h : RV W g v n A c l) : W.cell? ⟨g, 0, none⟩ = some (.int .i64 v) := h.1
theorem _root_.Go.Proofs.Ytedjibjmbgllkaa.PAll.RV.v1 {W : World} {g : Nat} {v : Int} {n : Nat} {A : Option Addr} {c : Nat} {l : List Int} (h : RV W g v n A c l) : W.cell? ⟨g, 1, none⟩ = some (.slice A n c) := h.2.1
theorem c_law (v : Int) (l : List Int) (b : Bool) (hb : Pure.okB v l = b) (W : World) (A : Option Addr) (c : Nat) (h : Ints W A c l.length l) : Calls Try.prog 12 #[.agg #[.int .i64 v, .slice A l.length c]] W fun e w' => e = .returned (.bool b) ∧ Below W.heap.size W w' := by
  subst hb
  obtain ⟨k, hk⟩ := Ev.rounds (Pure.lawRight v l)
  exact skiarealaw27_right.calls k v A c l _ W h.1 h.2 hk
theorem c_few (l : List Int) (b : Bool) (hb : decide (l.length ≤ 250) = b) (W : World) (A : Option Addr) (c : Nat) (h : Ints W A c l.length l) : Calls Try.prog 15 #[.slice A l.length c] W fun e w' => e = .returned (.bool b) ∧ Below W.heap.size W w' := by
  subst hb
  refine (skiarealaw27_few.calls A c l _ W h.1 h.2 (Pure.few_eq l)).mono ?_
  rintro e w' ⟨rfl, ⟨nd, rfl⟩⟩
  exact ⟨rfl, pw_below_drewN (Below.refl _ _) _⟩
theorem c_chg (v : Int) (l add drop : List Int) (x1 : Int) (x2 : List Int) (x3 : Int) (hcs : changeS v l add drop = (x1, x2, x3)) (W : World) (A Aa Ad : Option Addr) (c ca cd : Nat) (hv : 0 ≤ v ∧ v ≤ 1000000) (hl : l.length ≤ 1000) (hal : add.length ≤ 1000) (hdl : drop.length ≤ 1000) (hI : Ints W A c l.length l) (ha : Ints W Aa ca add.length add) (hd : Ints W Ad cd drop.length drop) :
    Calls Try.prog 16 #[.agg #[.int .i64 v, .slice A l.length c], .slice Aa add.length ca, .slice Ad drop.length cd] W fun e w' => ∃ A' c', e = .returned (.tuple #[.agg #[.int .i64 x1, .slice A' x2.length c'], .int .i64 x3]) ∧ Ints w' A' c' x2.length x2 ∧ Below W.heap.size W w' := by
  obtain ⟨k, hk⟩ := Ev.rounds (Pure.changeW v l add drop hv hl hal hdl)
  rw [hcs] at hk
  refine (revoke_Change.calls k v A c l (fun k_ => k_ < W.heap.size) Aa ca add Ad cd drop x1 x2 x3 W hI.1 hI.2 (Kd.V_mk ha.2 (Kd.C_F (Kd.heap_int .i64) ha.1)) hd.1 hd.2 hk).mono ?_
  rintro e w' ⟨u, rfl, hR, hB⟩
  obtain ⟨A2, c2, rfl, hI⟩ := ints_of hR
  exact ⟨A2, c2, rfl, hI, hB⟩
theorem c_ref2 (v : Int) (l add drop : List Int) (x1 : Int) (x2 : List Int) (x3 : Int) (hcs : changeS v l add drop = (x1, x2, x3)) (W : World) (A Aa Ad : Option Addr) (c ca cd : Nat) (hv : 0 ≤ v ∧ v ≤ 1000000) (hl : l.length ≤ 1000) (hal : add.length ≤ 1000) (hdl : drop.length ≤ 1000) (hI : Ints W A c l.length l) (ha : Ints W Aa ca add.length add) (hd : Ints W Ad cd drop.length drop) :
    Calls Try.prog 17 #[.agg #[.int .i64 v, .slice A l.length c], .slice Aa add.length ca, .slice Ad drop.length cd] W fun e w' => ∃ A' c', e = .returned (.tuple #[.agg #[.int .i64 x1, .slice A' x2.length c'], .int .i64 x3]) ∧ Ints w' A' c' x2.length x2 ∧ Below W.heap.size W w' := by
  have h := c_ref v l add drop W A Aa Ad c ca cd hv hl hal hdl hI ha hd
  rw [hcs] at h
  exact h
theorem c_eq (v : Int) (l : List Int) (hl : l.length ≤ 1000000) (W : World) (A A' : Option Addr) (c c' : Nat) (h : Ints W A c l.length l) (h' : Ints W A' c' l.length l) :
    Calls Try.prog 18 #[.agg #[.int .i64 v, .slice A l.length c], .agg #[.int .i64 v, .slice A' l.length c']] W fun e w' => e = .returned (.bool true) ∧ Below W.heap.size W w' := by
  obtain ⟨k, hk⟩ := Ev.rounds (Pure.sameV v l hl)
  exact skiarearef27_Same.calls k v A c l v A' c' l true W h.1 h.2 h'.1 h'.2 hk
theorem chg_len (v : Int) (l add drop : List Int) (x1 : Int) (x2 : List Int) (x3 : Int) (hcs : changeS v l add drop = (x1, x2, x3)) (hl : l.length ≤ 1000) (hal : add.length ≤ 1000) : x2.length ≤ 1000000 := by
  have h : x2 = (changeS v l add drop).2.1 := by rw [hcs]
  have hn := Pure.new_len l add drop
  rw [h]
  unfold changeS
  split
  · simp
  · split
    · show (newL l add drop).length ≤ _; omega
    · split
      · simp
      · split
        · simp
        · show (newL l add drop).length ≤ _; omega
def skiarealaw27_RevokeChanges.f (a0_0 : Int) (l0_1 : List Int) (l1 : List Int) (l2 : List Int) : Option Bool := some true
set_option maxRecDepth 100000 in
set_option maxHeartbeats 1000000 in
theorem skiarealaw27_RevokeChanges.calls (a0_0 : Int) (A0_1 : Option Addr) (c0_1 : Nat) (l0_1 : List Int) (A1 : Option Addr) (c1 : Nat) (l1 : List Int) (A2 : Option Addr) (c2 : Nat) (l2 : List Int) (r : Bool) (w : World) (hr0_1 : Kd.C (Kd.int .i64) w A0_1 l0_1.length l0_1) (hc0_1 : l0_1.length ≤ c0_1) (hr1 : Kd.C (Kd.int .i64) w A1 l1.length l1) (hc1 : l1.length ≤ c1) (hr2 : Kd.C (Kd.int .i64) w A2 l2.length l2) (hc2 : l2.length ≤ c2) (h : skiarealaw27_RevokeChanges.f a0_0 l0_1 l1 l2 = some r) :
    Calls Try.prog 4 #[.agg #[.int .i64 a0_0, .slice A0_1 l0_1.length c0_1], .slice A1 l1.length c1, .slice A2 l2.length c2] w fun e w' => e = .returned (.bool r) ∧ Below w.heap.size w w' := by
  unfold skiarealaw27_RevokeChanges.f at h
  injection h with h
  subst h
  have hu24 := Try.underlying24
  have HI := Aside0.mk (show Ints w A0_1 c0_1 l0_1.length l0_1 from ⟨hr0_1, hc0_1⟩)
  have H1 := Aside0.mk (show Ints w A1 c1 l1.length l1 from ⟨hr1, hc1⟩)
  have H2 := Aside0.mk (show Ints w A2 c2 l2.length l2 from ⟨hr2, hc2⟩)
  clear hr0_1 hc0_1 hr1 hc1 hr2 hc2
  cases hok : Pure.okB a0_0 l0_1 with
  | false =>
    have HOK := Aside0.mk hok
    clear hok
    go_enter Try.func4, Try.ntmps4
    go_wp2_with (first
      | (go_at_call 9; (with_reducible refine (skiarealaw27_alive.calls true _ rfl).mono ?_); rintro e w1 ⟨rfl, hb⟩; have HR := Aside0.mk ((RV.new w w.heap.size rfl a0_0 l0_1.length A0_1 c0_1 l0_1 HI.out).below hb); have HB := Aside0.mk ((below_alloc (Below.refl w.heap.size w) _).trans (hb.mono (by simp))); clear hb; have hr0 := HR.out.v0; have hr1 := HR.out.v1)
      | (go_at_call 12; (with_reducible refine (c_law _ _ false HOK.out _ _ _ HR.out.ints).mono ?_); rintro e w2 ⟨rfl, hb⟩; have m_ := Aside0.mk (HR.out.below hb); have n_ := Aside0.mk (HB.out.trans (hb.mono HB.out.size)); clear HR HB hr0 hr1; have HR := m_; have HB := n_; clear m_ n_ hb; have hr0 := HR.out.v0; have hr1 := HR.out.v1))
    go_ret
    exact ⟨rfl, HB.out⟩
  | true =>
    have hr := (Pure.right_zero a0_0 l0_1).1 (of_decide_eq_true hok)
    have HOK := Aside0.mk hok
    clear hok
    cases hf1 : decide (l1.length ≤ 250) with
    | false =>
      have HF1 := Aside0.mk hf1
      clear hf1
      go_enter Try.func4, Try.ntmps4
      go_wp2_with (first
        | (go_at_call 9; (with_reducible refine (skiarealaw27_alive.calls true _ rfl).mono ?_); rintro e w1 ⟨rfl, hb⟩; have HR := Aside0.mk ((RV.new w w.heap.size rfl a0_0 l0_1.length A0_1 c0_1 l0_1 HI.out).below hb); have HB := Aside0.mk ((below_alloc (Below.refl w.heap.size w) _).trans (hb.mono (by simp))); clear hb; have hr0 := HR.out.v0; have hr1 := HR.out.v1)
        | (go_at_call 12; (with_reducible refine (c_law _ _ true HOK.out _ _ _ HR.out.ints).mono ?_); rintro e w2 ⟨rfl, hb⟩; have m_ := Aside0.mk (HR.out.below hb); have n_ := Aside0.mk (HB.out.trans (hb.mono HB.out.size)); clear HR HB hr0 hr1; have HR := m_; have HB := n_; clear m_ n_ hb; have hr0 := HR.out.v0; have hr1 := HR.out.v1)
        | (go_at_call 15; (with_reducible refine (c_few l1 false HF1.out _ _ _ (H1.out.below HB.out)).mono ?_); rintro e w3 ⟨rfl, hb⟩; have m_ := Aside0.mk (HR.out.below hb); have n_ := Aside0.mk (HB.out.trans (hb.mono HB.out.size)); clear HR HB hr0 hr1; have HR := m_; have HB := n_; clear m_ n_ hb; have hr0 := HR.out.v0; have hr1 := HR.out.v1))
      go_ret
      exact ⟨rfl, HB.out⟩
    | true =>
      have hlen1 : l1.length ≤ 250 := of_decide_eq_true hf1
      have HF1 := Aside0.mk hf1
      clear hf1
      cases hf2 : decide (l2.length ≤ 250) with
      | false =>
        have HF2 := Aside0.mk hf2
        clear hf2
        go_enter Try.func4, Try.ntmps4
        go_wp2_with (first
          | (go_at_call 9; (with_reducible refine (skiarealaw27_alive.calls true _ rfl).mono ?_); rintro e w1 ⟨rfl, hb⟩; have HR := Aside0.mk ((RV.new w w.heap.size rfl a0_0 l0_1.length A0_1 c0_1 l0_1 HI.out).below hb); have HB := Aside0.mk ((below_alloc (Below.refl w.heap.size w) _).trans (hb.mono (by simp))); clear hb; have hr0 := HR.out.v0; have hr1 := HR.out.v1)
          | (go_at_call 12; (with_reducible refine (c_law _ _ true HOK.out _ _ _ HR.out.ints).mono ?_); rintro e w2 ⟨rfl, hb⟩; have m_ := Aside0.mk (HR.out.below hb); have n_ := Aside0.mk (HB.out.trans (hb.mono HB.out.size)); clear HR HB hr0 hr1; have HR := m_; have HB := n_; clear m_ n_ hb; have hr0 := HR.out.v0; have hr1 := HR.out.v1)
          | (go_at_call 15; (with_reducible refine (c_few l1 true HF1.out _ A1 c1 (H1.out.below HB.out)).mono ?_); rintro e w3 ⟨rfl, hb⟩; have m_ := Aside0.mk (HR.out.below hb); have n_ := Aside0.mk (HB.out.trans (hb.mono HB.out.size)); clear HR HB hr0 hr1; have HR := m_; have HB := n_; clear m_ n_ hb; have hr0 := HR.out.v0; have hr1 := HR.out.v1)
          | (go_at_call 15; (with_reducible refine (c_few l2 false HF2.out _ A2 c2 (H2.out.below HB.out)).mono ?_); rintro e w4 ⟨rfl, hb⟩; have m_ := Aside0.mk (HR.out.below hb); have n_ := Aside0.mk (HB.out.trans (hb.mono HB.out.size)); clear HR HB hr0 hr1; have HR := m_; have HB := n_; clear m_ n_ hb; have hr0 := HR.out.v0; have hr1 := HR.out.v1))
        go_ret
        exact ⟨rfl, HB.out⟩
      | true =>
        have hlen2 : l2.length ≤ 250 := of_decide_eq_true hf2
        have HF2 := Aside0.mk hf2
        clear hf2
        obtain ⟨x1, x2, x3, hcs⟩ : ∃ x1 x2 x3, changeS a0_0 l0_1 l1 l2 = (x1, x2, x3) := ⟨_, _, _, rfl⟩
        have HCS := Aside0.mk hcs
        have HLN := Aside0.mk (chg_len a0_0 l0_1 l1 l2 x1 x2 x3 hcs (by omega) (by omega))
        have HN := Aside0.mk (show (0 ≤ a0_0 ∧ a0_0 ≤ 1000000) ∧ l0_1.length ≤ 1000 ∧ l1.length ≤ 1000 ∧ l2.length ≤ 1000 from ⟨hr.1, by omega, by omega, by omega⟩)
        clear hcs hr hlen1 hlen2
        go_enter Try.func4, Try.ntmps4
        go_wp2_with (first
          | (go_at_call 9; (with_reducible refine (skiarealaw27_alive.calls true _ rfl).mono ?_); rintro e w1 ⟨rfl, hb⟩; have HR := Aside0.mk ((RV.new w w.heap.size rfl a0_0 l0_1.length A0_1 c0_1 l0_1 HI.out).below hb); have HB := Aside0.mk ((below_alloc (Below.refl w.heap.size w) _).trans (hb.mono (by simp))); clear hb; have hr0 := HR.out.v0; have hr1 := HR.out.v1)
          | (go_at_call 12; (with_reducible refine (c_law _ _ true HOK.out _ _ _ HR.out.ints).mono ?_); rintro e w2 ⟨rfl, hb⟩; have m_ := Aside0.mk (HR.out.below hb); have n_ := Aside0.mk (HB.out.trans (hb.mono HB.out.size)); clear HR HB hr0 hr1; have HR := m_; have HB := n_; clear m_ n_ hb; have hr0 := HR.out.v0; have hr1 := HR.out.v1)
          | (go_at_call 15; (with_reducible refine (c_few l1 true HF1.out _ A1 c1 (H1.out.below HB.out)).mono ?_); rintro e w3 ⟨rfl, hb⟩; have m_ := Aside0.mk (HR.out.below hb); have n_ := Aside0.mk (HB.out.trans (hb.mono HB.out.size)); clear HR HB hr0 hr1; have HR := m_; have HB := n_; clear m_ n_ hb; have hr0 := HR.out.v0; have hr1 := HR.out.v1)
          | (go_at_call 15; (with_reducible refine (c_few l2 true HF2.out _ A2 c2 (H2.out.below HB.out)).mono ?_); rintro e w4 ⟨rfl, hb⟩; have m_ := Aside0.mk (HR.out.below hb); have n_ := Aside0.mk (HB.out.trans (hb.mono HB.out.size)); clear HR HB hr0 hr1; have HR := m_; have HB := n_; clear m_ n_ hb; have hr0 := HR.out.v0; have hr1 := HR.out.v1)
          | (go_at_call 16; (with_reducible refine (c_chg a0_0 l0_1 l1 l2 x1 x2 x3 HCS.out _ _ _ _ _ _ _ (And.left HN.out) (And.left (And.right HN.out)) (And.left (And.right (And.right HN.out))) (And.right (And.right (And.right HN.out))) HR.out.ints (H1.out.below HB.out) (H2.out.below HB.out)).mono ?_); rintro e w5 ⟨A5, c5, rfl, hI5, hb⟩; have HI5 := Aside0.mk hI5; have m_ := Aside0.mk (HR.out.below hb); have n_ := Aside0.mk (HB.out.trans (hb.mono HB.out.size)); clear HR HB hr0 hr1; have HR := m_; have HB := n_; clear m_ n_ hb; have hr0 := HR.out.v0; have hr1 := HR.out.v1; clear hI5; have hl0 := HR.out.c0; have hl1 := HR.out.c1)
          | (go_at_call 17; (with_reducible refine (c_ref2 a0_0 l0_1 l1 l2 x1 x2 x3 HCS.out _ _ _ _ _ _ _ (And.left HN.out) (And.left (And.right HN.out)) (And.left (And.right (And.right HN.out))) (And.right (And.right (And.right HN.out))) (HR.out.ints.alloc _) ((H1.out.below HB.out).alloc _) ((H2.out.below HB.out).alloc _)).mono ?_); rintro e w6 ⟨A6, c6, rfl, hI6, hb⟩; have HI6 := Aside0.mk hI6; have HX := Aside0.mk ((RV.new w5 w5.heap.size rfl x1 x2.length A5 c5 x2 HI5.out).below hb); have n_ := Aside0.mk ((below_alloc HB.out _).trans (hb.mono (by have := HB.out.size; simp; omega))); clear HB hl0 hl1 hr0 hr1; have HB := n_; clear n_ hb hI6; have hk0 := HX.out.c0; have hk1 := HX.out.c1)
          | (go_at_call 18; (with_reducible refine (c_eq x1 x2 HLN.out _ _ _ _ _ (HX.out.ints.alloc _) (HI6.out.alloc _)).mono ?_); rintro e w7 ⟨rfl, hb⟩; have n_ := Aside0.mk ((below_alloc HB.out _).trans (hb.mono (by have := HB.out.size; simp; omega))); clear HB; have HB := n_; clear n_ hb))
        go_ret
        exact ⟨rfl, HB.out⟩
theorem skiarealaw27_RevokeChanges.always (v : Int) (l add drop : List Int) : skiarealaw27_RevokeChanges.f v l add drop = some true := rfl
end Go.Proofs.Ytedjibjmbgllkaa.PHand
namespace Go.Proofs.Ytedjibjmbgllkaa.Pure
theorem RevokeChanges (v : Int) (l add drop : List Int) : PHand.skiarealaw27_RevokeChanges.f v l add drop = some true := rfl
end Go.Proofs.Ytedjibjmbgllkaa.Pure
