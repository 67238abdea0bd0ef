/- slices.Sort and slices.Compact at []int, of a slice that the call owns. -/
import Derived.Test.YtedjibjmbgllkaaGHelp
import Derived.Test.YtedjibjmbgllkaaGSet
import Derived.Test.YtedjibjmbgllkaaShelf
import Derived.Sort.OwnSortedInts
namespace Go.Proofs.Ytedjibjmbgllkaa.Help
set_option linter.unusedVariables false
set_option linter.unusedSimpArgs false
open Go.RowKit Go.Sort Go.Proofs.YtedjibjmbgllkaaW.PrintWords

theorem sort_own {W : World} {base : Nat} {v : Value} {l : List Int} (h : W.ownsRow base 3 1 v l.length (l.map (Value.int .i64))) (hl : l.length < 4611686018427387904) :
    Calls Try.prog 39 #[v] W fun e w2 => e = .returned (.tuple #[]) ∧ W.grownBy w2 v.ownBlock ∧ w2.ownsRow base 3 1 v l.length ((l.mergeSort fun x y => decide (x ≤ y)).map (Value.int .i64)) := by
  rcases Nat.eq_zero_or_pos l.length with h0 | h0
  · obtain rfl := List.eq_nil_of_length_eq_zero h0
    obtain ⟨A, c, rfl⟩ := own_slice h
    refine (Try.slices_Sort_int_none A c W).mono ?_
    rintro e w2 ⟨rfl, rfl⟩
    exact ⟨rfl, ⟨rfl, rfl, rfl, Nat.le_refl _, fun _ _ _ => rfl⟩, by simpa using h⟩
  · obtain ⟨g, cap, rfl, hb, hlt⟩ := h.form h0
    rcases h.2 with ⟨h1, _⟩ | ⟨g', cap', cur, hv, hbase, hh, hn, hcm, hcs, htake⟩
    · cases h1
    · cases hv
      rw [Nat.mul_one] at htake
      have hH := holds_of_blockI hh htake
      refine (Try.slices_Sort_int g 0 cap l W hH hlt hl).mono ?_
      rintro e w2 ⟨rfl, n, os, rfl⟩
      exact ⟨rfl, grownBy_sortedI _, ownsRow_sortedI (by rw [List.length_mergeSort]) hbase hh hn hcm hcs⟩

theorem compact_own {W : World} {base : Nat} {v : Value} {l : List Int} (h : W.ownsRow base 3 1 v l.length (l.map (Value.int .i64))) (hl : l.length < 4611686018427387904) :
    Calls Try.prog 40 #[v] W fun e w2 => ∃ v2, e = .returned v2 ∧ W.grownBy w2 v.ownBlock ∧ v2.ownBlock = v.ownBlock ∧ w2.ownsRow base 3 1 v2 (Go.Lib.compact l).length ((Go.Lib.compact l).map (Value.int .i64)) := by
  rcases Nat.eq_zero_or_pos l.length with h0 | h0
  · obtain rfl := List.eq_nil_of_length_eq_zero h0
    obtain ⟨A, c, rfl⟩ := own_slice h
    refine (Try.slices_Compact_int_empty A c W).mono ?_
    rintro e w2 ⟨rfl, rfl⟩
    exact ⟨_, rfl, ⟨rfl, rfl, rfl, Nat.le_refl _, fun _ _ _ => rfl⟩, rfl, by simpa [Go.Lib.compact, Go.Lib.compactUpTo] using h⟩
  · obtain ⟨g, cap, rfl, hb, hlt⟩ := h.form h0
    rcases h.2 with ⟨h1, _⟩ | ⟨g', cap', cur, hv, hbase, hh, hn, hcm, hcs, htake⟩
    · cases h1
    · cases hv
      rw [Nat.mul_one] at htake
      have hH := holds_of_blockI hh htake
      have hcl : (Go.Lib.compact l).length ≤ l.length := by
        unfold Go.Lib.compact Go.Lib.compactUpTo
        rw [List.length_map]
        exact Nat.le_trans (List.length_filter_le _ _) (by simp)
      refine (Try.slices_Compact_int g 0 cap l W hH (by omega) hn).mono ?_
      rintro e w2 ⟨rfl, q, rfl⟩
      have e1 : ∀ d : Array Int, putRow (Value.int .i64) (Sort.ahead W q) g 0 d = grow (putRow (Value.int .i64) (Sort.ahead W q) g 0 d) #[] := fun d => (grow_empty _).symm
      have hlen : (Go.Lib.compact l ++ List.replicate (l.length - (Go.Lib.compact l).length) 0).length = l.length := by simp; omega
      rw [e1]
      have ho := ownsRow_sortedI (w := W) (base := base) (n := q) (os := #[]) (ss := l) (ts := Go.Lib.compact l ++ List.replicate (l.length - (Go.Lib.compact l).length) 0) hlen hbase hh hn hcm hcs
      have hr : Kd.R (Kd.int .i64) 3 _ base (fun _ => True) (.slice (some ⟨g, 0, none⟩) l.length cap) (Go.Lib.compact l ++ List.replicate (l.length - (Go.Lib.compact l).length) 0) := Kd.R_of_own (by rw [hlen]; exact ho) (fun _ _ => trivial)
      have hr2 := Kd.own_of_R (Kd.R_take hr (m := (Go.Lib.compact l).length) (by simp))
      rw [List.take_left] at hr2
      exact ⟨_, rfl, grownBy_sortedI _, rfl, hr2⟩
end Go.Proofs.Ytedjibjmbgllkaa.Help
