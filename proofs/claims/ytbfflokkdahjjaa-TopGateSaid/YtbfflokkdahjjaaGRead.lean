/- An argument that can be read as data, told in the print's kinds: whole numbers, bools, slices, structs and arrays of these. -/
import Derived.Test.YtbfflokkdahjjaaWRest
import Derived.Deep.Slices
import Derived.OpenShut
import Derived.ChangeArms
namespace Go.Proofs.Ytbfflokkdahjjaa.Help
set_option linter.unusedVariables false
set_option linter.unusedSimpArgs false
open Go.RowKit Go.Deep Go.Proofs.YtbfflokkdahjjaaW.PrintWords

/-- Whatever of type t can be read is of kind d, and what it holds is well-formed. -/
structure Reader (P : Program) (t : TypeId) {α : Type} (d : Kd α) (wf : α → Prop) : Prop where
  cells : P.cellsOf t = d.sz
  read : ∀ {H : Type} {enc : TypeId × Value → H} {w : World} {base : Nat} {spare : Nat → Bool} {held : Bool} {fuel : Nat} {cs : List Value} {x : DataW H × List MemPlace},
    DataW.trod enc P w base spare held fuel t cs = some x → ∃ a, d.K w a cs ∧ wf a

theorem Reader.int {P : Program} {t : TypeId} {k : IntKind} (ht : P.underlying t = some (.int k)) (hc : P.cellsOf t = 1) : Reader P t (Kd.int k) (fun x => (Lit.int k x).wf = true) :=
  ⟨hc, fun h => by
    obtain ⟨n, rfl, _, hw⟩ := DataW.trod_int ht h
    exact ⟨n, rfl, hw⟩⟩
theorem Reader.bool {P : Program} {t : TypeId} (ht : P.underlying t = some .bool) (hc : P.cellsOf t = 1) : Reader P t Kd.bool (fun _ => True) :=
  ⟨hc, fun h => by
    obtain ⟨b, rfl, _⟩ := DataW.trod_bool ht h
    exact ⟨b, rfl, trivial⟩⟩
theorem add_add (a : Addr) (x y : Nat) : (a.add x).add y = a.add (x + y) := by
  unfold Addr.add
  by_cases hx : x = 0
  · subst hx; simp
  · by_cases hy : y = 0
    · subst hy; simp
    · rw [if_neg hx, if_neg hy, if_neg (by omega)]
      simp [Nat.add_assoc]
theorem Reader.slice {P : Program} {t e : TypeId} {α : Type} {d : Kd α} {wf : α → Prop} (ht : P.underlying t = some (.slice e)) (hc : P.cellsOf t = 1) (r : Reader P e d wf) :
    Reader P t (Kd.slice e d) (fun xs => ∀ x ∈ xs, wf x) :=
  ⟨hc, fun {H enc w base spare held fuel cs x} h => by
    rcases open_slice ht h with ⟨rfl, _⟩ | ⟨a, len, cap, m, n, D, Pl, rfl, _, hl, hm, hmm, _, hx⟩
    · exact ⟨[], ⟨none, 0, rfl, Nat.le_refl _, Kd.C_nil _ _⟩, fun _ hx => by simp at hx⟩
    · have hlm : len ≤ m := by rw [hmm]; split <;> omega
      have key : ∀ i, i < len → ∃ y cs', d.K w y cs' ∧ wf y ∧ ∀ j u, cs'[j]? = some u → w.cell? (a.add (i * d.sz + j)) = some u := by
        intro i hi
        obtain ⟨cs', h1, h2⟩ := hx i (by omega)
        obtain ⟨y, hy, hw⟩ := r.read h2
        obtain ⟨_, hlen, hcell⟩ := World.cells?_some h1
        refine ⟨y, cs', hy, hw, fun j u hu => ?_⟩
        have hj : j < cs'.length := (List.getElem?_eq_some_iff.1 hu).1
        have := hcell j (by omega)
        rw [add_add, r.cells] at this
        rw [this, hu]
      rcases Nat.eq_zero_or_pos len with h0 | h0
      · subst h0
        exact ⟨[], ⟨some a, cap, rfl, Nat.zero_le _, ⟨rfl, by simp, fun h => absurd h (Nat.lt_irrefl 0)⟩⟩, fun _ hx => by simp at hx⟩
      have hf : ∃ f : Nat → α, ∀ i, i < len → ∃ cs', d.K w (f i) cs' ∧ wf (f i) ∧ ∀ j u, cs'[j]? = some u → w.cell? (a.add (i * d.sz + j)) = some u :=
        ⟨fun i => if h : i < len then Classical.choose (key i h) else Classical.choose (key 0 h0), fun i hi => by
            simp only [dif_pos hi]
            exact Classical.choose_spec (key i hi)⟩
      obtain ⟨f, hf⟩ := hf
      refine ⟨(List.range len).map f, ⟨some a, cap, by simp, by simpa using hl, ⟨by simp, by simp; simp only [maxLen] at hm; omega, fun h0 => ⟨a, rfl, fun j p hj => ?_⟩⟩⟩, fun y hy => ?_⟩
      · rw [List.getElem?_map] at hj
        obtain ⟨i, hi, rfl⟩ := Option.map_eq_some_iff.1 hj
        obtain ⟨hi1, hi2⟩ := List.getElem?_eq_some_iff.1 hi
        simp at hi2
        subst hi2
        obtain ⟨cs', hk, _, hcell⟩ := hf j (by simpa using hi1)
        exact ⟨cs', d.K_len hk, hk, hcell⟩
      · obtain ⟨i, hi, rfl⟩ := List.mem_map.1 hy
        exact (hf i (by simpa using hi)).choose_spec.2.1⟩

/-- The fields from cell 'off' on: each a type and the cell where it begins. -/
def FReader (P : Program) (fs : List (TypeId × Nat)) (off : Nat) {α : Type} (d : Kd α) (wf : α → Prop) : Prop :=
  ∀ {H : Type} {enc : TypeId × Value → H} {w : World} {base : Nat} {spare : Nat → Bool} {held : Bool} {n : Nat} {cs : List Value}, cs.length = off + d.sz →
    (∀ p ∈ fs, ∃ x, DataW.trod enc P w base spare held n p.1 ((cs.drop p.2).take (P.cellsOf p.1)) = some x) → ∃ a, d.K w a (cs.drop off) ∧ wf a
theorem FReader.last {P : Program} {t : TypeId} {off : Nat} {α : Type} {d : Kd α} {wf : α → Prop} (r : Reader P t d wf) : FReader P [(t, off)] off d wf := fun {H enc w base spare held n cs} hl h => by
  obtain ⟨x, hx⟩ := h (t, off) (by simp)
  obtain ⟨a, ha, hw⟩ := r.read hx
  rw [r.cells, List.take_of_length_le (by simp; omega)] at ha
  exact ⟨a, ha, hw⟩
theorem FReader.cons {P : Program} {t : TypeId} {off : Nat} {fs : List (TypeId × Nat)} {α β : Type} {d : Kd α} {d' : Kd β} {wf : α → Prop} {wf' : β → Prop} (r : Reader P t d wf) (rs : FReader P fs (off + d.sz) d' wf') :
    FReader P ((t, off) :: fs) off (Kd.pair d d') (fun x => wf x.1 ∧ wf' x.2) := fun {H enc w base spare held n cs} hl h => by
  have hl' : cs.length = off + (d.sz + d'.sz) := hl
  obtain ⟨x, hx⟩ := h (t, off) (by simp)
  obtain ⟨a, ha, hw⟩ := r.read hx
  obtain ⟨b, hb, hw'⟩ := rs (by omega) (fun p hp => h p (List.mem_cons_of_mem _ hp))
  rw [r.cells] at ha
  refine ⟨(a, b), ⟨_, _, ?_, ha, hb⟩, hw, hw'⟩
  rw [← List.drop_drop, List.take_append_drop]
theorem Reader.struct {P : Program} {t : TypeId} {fs : Array Field} {α β : Type} {d : Kd α} {wf : α → Prop} (ht : P.underlying t = some (.struct fs)) (l : List (TypeId × Nat)) (hfs : fs.toList.map (fun f => (f.type, f.offset)) = l) (hc : P.cellsOf t = d.sz) (r : FReader P l 0 d wf)
    (f : β → α) (g : α → β) (hfg : ∀ a, f (g a) = a) : Reader P t (Kd.iso d f) (fun b => wf (f b)) :=
  ⟨hc, fun {H enc w base spare held fuel cs x} h => by
    subst hfs
    obtain ⟨xs, n, _, _, hl, hlen, hf⟩ := DataW.trod_struct ht h
    obtain ⟨a, ha, hw⟩ := r (n := n) (cs := cs) (enc := enc) (w := w) (base := base) (spare := spare) (held := held) (by omega) (fun p hp => by
      obtain ⟨f, hf1, rfl⟩ := List.mem_map.1 hp
      obtain ⟨i, hi, rfl⟩ := List.getElem_of_mem hf1
      have hi' : i < fs.size := by simpa using hi
      have := hf i fs[i] (Array.getElem?_eq_getElem hi')
      rw [List.getElem?_eq_getElem (by omega)] at this
      exact ⟨_, by simpa using this⟩)
    rw [List.drop_zero] at ha
    exact ⟨g a, by show d.K w (f (g a)) cs; rw [hfg]; exact ha, by rw [hfg]; exact hw⟩⟩
theorem Reader.arr {P : Program} {t e : TypeId} {n : Nat} {α β : Type} {d : Kd α} {wf : α → Prop} (ht : P.underlying t = some (.array n e)) (l : List (TypeId × Nat)) (hfs : (List.range n).map (fun i => (e, i * P.cellsOf e)) = l) (hc : P.cellsOf t = d.sz) (r : FReader P l 0 d wf)
    (f : β → α) (g : α → β) (hfg : ∀ a, f (g a) = a) : Reader P t (Kd.iso d f) (fun b => wf (f b)) :=
  ⟨hc, fun {H enc w base spare held fuel cs x} h => by
    subst hfs
    obtain ⟨xs, m, _, _, hl, hlen, hf⟩ := DataW.trod_array ht h
    obtain ⟨a, ha, hw⟩ := r (n := m) (cs := cs) (enc := enc) (w := w) (base := base) (spare := spare) (held := held) (by omega) (fun p hp => by
      obtain ⟨i, hi, rfl⟩ := List.mem_map.1 hp
      have hi' : i < n := by simpa using hi
      have := hf i hi'
      rw [List.getElem?_eq_getElem (by omega)] at this
      exact ⟨_, this⟩)
    rw [List.drop_zero] at ha
    exact ⟨g a, by show d.K w (f (g a)) cs; rw [hfg]; exact ha, by rw [hfg]; exact hw⟩⟩
/-- An argument that is a slice: the row it tells. -/
theorem Reader.row {P : Program} {t e : TypeId} {α : Type} {d : Kd α} {wf : List α → Prop} (r : Reader P t (Kd.slice e d) wf) {H : Type} {enc : TypeId × Value → H} {w : World} {base : Nat} {spare : Nat → Bool} {held : Bool} {a : Option Addr} {n c : Nat} {x : DataW H} {ps : List MemPlace}
    (h : DataW.Trod enc P w base spare held t (.slice a n c) x ps) : ∃ l : List α, n = l.length ∧ l.length ≤ c ∧ d.C w a l.length l ∧ wf l := by
  obtain ⟨fuel, hf⟩ := h
  obtain ⟨l, ⟨A, c', hcs, hl, hC⟩, hw⟩ := r.read hf
  simp [Value.cells] at hcs
  obtain ⟨rfl, rfl, rfl⟩ := hcs
  exact ⟨l, rfl, hl, hC, hw⟩
/-- An argument that is a struct or an array. -/
theorem Reader.agg {P : Program} {t : TypeId} {α : Type} {d : Kd α} {wf : α → Prop} (r : Reader P t d wf) {H : Type} {enc : TypeId × Value → H} {w : World} {base : Nat} {spare : Nat → Bool} {held : Bool} {cs : Array Value} {x : DataW H} {ps : List MemPlace}
    (h : DataW.Trod enc P w base spare held t (.agg cs) x ps) : ∃ a : α, d.K w a cs.toList ∧ wf a := by
  obtain ⟨fuel, hf⟩ := h
  exact r.read hf
theorem okWide_arr {P : Program} {w : World} {r : Reach} {base : Nat} {t e : TypeId} {n : Nat} {v : Value} (ht : P.underlying t = some (.array n e)) (h : Value.okWide P w r base t v) : ∃ cs, v = .agg cs := by
  simp only [Value.okWide, ht] at h
  obtain ⟨cs, h1, _⟩ := h
  exact ⟨cs, h1⟩
end Go.Proofs.Ytbfflokkdahjjaa.Help
