/- Small facts on rows; sorted lists; slices.Max, Sort and Compact, avalanche.find; how arguments read. Each theorem states its own conditions. -/
import Derived.Test.YtfjnpdgjigkbcaaWMore
import Derived.Lib.SlicesCompact
import Derived.Deep.Slices
import Derived.OpenShut
import Derived.ChangeArms
import Derived.Test.YtfjnpdgjigkbcaaPAllx0
import Derived.Test.YtfjnpdgjigkbcaaShelf
import Derived.Sort.OwnSortedInts
/- Small facts on rows of whole numbers that are read or owned, for the contracts by hand. -/
namespace Go.Proofs.Ytfjnpdgjigkbcaa.Help
open Go.RowKit Go.Proofs.YtfjnpdgjigkbcaaW.PrintWords

theorem int_cells {w : World} {A : Option Addr} {l : List Int} (h : Kd.C (Kd.int .i64) w A l.length l) (h0 : 0 < l.length) :
    ∃ b off, A = some ⟨b, off, none⟩ ∧ ∀ j, j < l.length → w.cell? ⟨b, off + j, none⟩ = some (.int .i64 (l.getD j 0)) := by
  obtain ⟨_, _, h⟩ := Kd.reads_of_C (enc := Value.int .i64) (d := (0:Int)) (h1 := fun _ => rfl) h
  obtain ⟨⟨b, off, sp⟩, rfl, hc⟩ := h h0
  have h1 := hc 0 h0
  have hsp : sp = none := by
    cases sp with
    | none => rfl
    | some x => simp only [Addr.add, if_true, World.cell?] at h1; split at h1 <;> simp at h1
  subst hsp
  exact ⟨b, off, rfl, fun j hj => by have := hc j hj; rwa [Addr.add_lit] at this⟩
theorem int_nil {w : World} {A : Option Addr} {l : List Int} (h : Kd.C (Kd.int .i64) w A l.length l) (h0 : A = none) : l = [] := by
  rcases Nat.eq_zero_or_pos l.length with h1 | h1
  · exact List.eq_nil_of_length_eq_zero h1
  · obtain ⟨b, off, e, _⟩ := int_cells h h1
    rw [h0] at e
    cases e
theorem int_own {w : World} {base e : Nat} {v : Value} {l : List Int} (h : w.ownsRow base e 1 v l.length (l.map (Value.int .i64))) : Kd.R (Kd.int .i64) e w base (fun _ => True) v l := Kd.R_of_own h (fun _ _ => trivial)
end Go.Proofs.Ytfjnpdgjigkbcaa.Help

/- Plain lists: a list's elements in increasing order, each once; two increasing lists of the same elements are one. -/
namespace Go.Proofs.Ytfjnpdgjigkbcaa.Help

def insU (x : Int) : List Int → List Int
  | [] => [x]
  | y :: ys => if x < y then x :: y :: ys else if x = y then y :: ys else y :: insU x ys
def sset (l : List Int) : List Int := l.foldr insU []
theorem mem_insU (x z : Int) : ∀ l : List Int, z ∈ insU x l ↔ z = x ∨ z ∈ l
  | [] => by simp [insU]
  | y :: ys => by
    have ih := mem_insU x z ys
    unfold insU
    split
    · simp
    · split
      · rename_i h
        subst h
        simp
      · simp only [List.mem_cons, ih]
        constructor
        · rintro (h | h | h)
          · exact .inr (.inl h)
          · exact .inl h
          · exact .inr (.inr h)
        · rintro (h | h | h)
          · exact .inr (.inl h)
          · exact .inl h
          · exact .inr (.inr h)
theorem inc_insU (x : Int) : ∀ l : List Int, l.Pairwise (· < ·) → (insU x l).Pairwise (· < ·)
  | [], _ => by simp [insU]
  | y :: ys, h => by
    obtain ⟨h1, h2⟩ := List.pairwise_cons.1 h
    unfold insU
    split
    · refine List.pairwise_cons.2 ⟨fun z hz => ?_, h⟩
      rcases List.mem_cons.1 hz with rfl | hz
      · assumption
      · have := h1 z hz
        omega
    · split
      · exact h
      · refine List.pairwise_cons.2 ⟨fun z hz => ?_, inc_insU x ys h2⟩
        rcases (mem_insU x z ys).1 hz with rfl | hz
        · omega
        · exact h1 z hz
theorem mem_sset (z : Int) : ∀ l : List Int, z ∈ sset l ↔ z ∈ l
  | [] => by simp [sset]
  | x :: l => by
    have ih := mem_sset z l
    show z ∈ insU x (sset l) ↔ _
    rw [mem_insU, ih, List.mem_cons]
theorem inc_sset : ∀ l : List Int, (sset l).Pairwise (· < ·)
  | [] => by simp [sset]
  | x :: l => inc_insU x _ (inc_sset l)
theorem inc_ext : ∀ (a b : List Int), a.Pairwise (· < ·) → b.Pairwise (· < ·) → (∀ z, z ∈ a ↔ z ∈ b) → a = b
  | [], [], _, _, _ => rfl
  | [], y :: ys, _, _, h => by have := (h y).2 (by simp); simp at this
  | x :: xs, [], _, _, h => by have := (h x).1 (by simp); simp at this
  | x :: xs, y :: ys, ha, hb, h => by
    obtain ⟨a1, a2⟩ := List.pairwise_cons.1 ha
    obtain ⟨b1, b2⟩ := List.pairwise_cons.1 hb
    have e : x = y := by
      rcases List.mem_cons.1 ((h x).1 (by simp)) with h1 | h1
      · exact h1
      · rcases List.mem_cons.1 ((h y).2 (by simp)) with h2 | h2
        · exact h2.symm
        · have := a1 y h2
          have := b1 x h1
          omega
    subst e
    congr 1
    refine inc_ext xs ys a2 b2 (fun z => ?_)
    constructor
    · intro hz
      have := a1 z hz
      rcases List.mem_cons.1 ((h z).1 (List.mem_cons_of_mem _ hz)) with h1 | h1
      · omega
      · exact h1
    · intro hz
      have := b1 z hz
      rcases List.mem_cons.1 ((h z).2 (List.mem_cons_of_mem _ hz)) with h1 | h1
      · omega
      · exact h1

open Go.Lib in
theorem compactUpTo_inc (d : Array Int) (hs : ∀ i j, i ≤ j → j < d.size → d[i]! ≤ d[j]!) : ∀ m, m ≤ d.size → (compactUpTo d m).Pairwise (· < ·) ∧ ∀ z, z ∈ compactUpTo d m ↔ ∃ j, j < m ∧ d[j]! = z
  | 0, _ => ⟨by simp [compactUpTo], fun z => by simp [compactUpTo]⟩
  | m + 1, hm => by
    obtain ⟨h1, h2⟩ := compactUpTo_inc d hs m (by omega)
    rw [compactUpTo_succ]
    by_cases hk : keeps d m = true
    · rw [if_pos hk]
      have hk' : m = 0 ∨ d[m]! ≠ d[m - 1]! := by simpa [keeps] using hk
      refine ⟨List.pairwise_append.2 ⟨h1, by simp, fun a ha b hb => ?_⟩, fun z => ?_⟩
      · obtain rfl := List.mem_singleton.1 hb
        obtain ⟨j, hj, rfl⟩ := (h2 a).1 ha
        have e1 := hs j (m - 1) (by omega) (by omega)
        have e2 := hs (m - 1) m (by omega) (by omega)
        rcases hk' with hk' | hk' <;> omega
      · rw [List.mem_append, h2, List.mem_singleton]
        constructor
        · rintro (⟨j, hj, rfl⟩ | rfl)
          · exact ⟨j, by omega, rfl⟩
          · exact ⟨m, by omega, rfl⟩
        · rintro ⟨j, hj, rfl⟩
          by_cases e : j = m
          · subst e; exact .inr rfl
          · exact .inl ⟨j, by omega, rfl⟩
    · rw [if_neg hk, List.append_nil]
      have hk' : m ≠ 0 ∧ d[m]! = d[m - 1]! := by simpa [keeps] using hk
      refine ⟨h1, fun z => ?_⟩
      rw [h2]
      constructor
      · rintro ⟨j, hj, rfl⟩
        exact ⟨j, by omega, rfl⟩
      · rintro ⟨j, hj, rfl⟩
        by_cases e : j = m
        · subst e; exact ⟨j - 1, by omega, hk'.2.symm⟩
        · exact ⟨j, by omega, rfl⟩
theorem compact_sort (l : List Int) : Go.Lib.compact (l.mergeSort fun x y => decide (x ≤ y)) = sset l := by
  have hp : (l.mergeSort fun x y => decide (x ≤ y)).Pairwise (fun a b => decide (a ≤ b) = true) := List.pairwise_mergeSort (le := fun x y => decide (x ≤ y)) (by intro a b c h1 h2; simp at *; omega) (by intro a b; simp; omega) l
  obtain ⟨s, hs⟩ : ∃ s, s = l.mergeSort fun x y => decide (x ≤ y) := ⟨_, rfl⟩
  have hm : ∀ z, z ∈ s ↔ z ∈ l := fun z => by rw [hs]; exact List.mem_mergeSort
  rw [← hs] at hp ⊢
  have hord : ∀ i j, i ≤ j → j < s.toArray.size → s.toArray[i]! ≤ s.toArray[j]! := by
    intro i j hij hj
    have hj' : j < s.length := by simpa using hj
    have hi' : i < s.length := by omega
    rw [getElem!_pos s.toArray i (by simpa using hi'), getElem!_pos s.toArray j (by simpa using hj')]
    simp only [List.getElem_toArray]
    rcases Nat.lt_or_ge i j with h | h
    · have := List.pairwise_iff_getElem.1 hp i j hi' hj' h
      simpa using this
    · have : i = j := by omega
      subst this
      exact Int.le_refl _
  obtain ⟨h1, h2⟩ := compactUpTo_inc s.toArray hord s.length (by simp)
  refine inc_ext _ _ h1 (inc_sset l) (fun z => ?_)
  rw [mem_sset, ← hm z]
  refine (h2 z).trans ?_
  constructor
  · rintro ⟨j, hj, rfl⟩
    rw [getElem!_pos s.toArray j (by simpa using hj)]
    simp
  · intro hz
    obtain ⟨j, hj, rfl⟩ := List.getElem_of_mem hz
    exact ⟨j, hj, by rw [getElem!_pos s.toArray j (by simpa using hj)]; simp⟩
end Go.Proofs.Ytfjnpdgjigkbcaa.Help

/- An argument that can be read as data, told in the print's kinds: whole numbers, bools, slices, structs and arrays of these. -/
namespace Go.Proofs.Ytfjnpdgjigkbcaa.Help
open Go.RowKit Go.Deep Go.Proofs.YtfjnpdgjigkbcaaW.PrintWords

/-- Whatever of type t can be read is of kind d, and what it holds is well-formed. -/
structure Reader (P : Program) (t : TypeId) {α : Type} (d : Kd α) (wf : α → Prop) : Prop where
  cells : P.cellsOf t = d.sz
  read : ∀ {H : Type} {enc : TypeId × Value → H} {w : World} {base : Nat} {spare : Nat → Bool} {held : Bool} {fuel : Nat} {cs : List Value} {x : DataW H × List MemPlace},
    DataW.trod enc P w base spare held fuel t cs = some x → ∃ a, d.K w a cs ∧ wf a

theorem Reader.int {P : Program} {t : TypeId} {k : IntKind} (ht : P.underlying t = some (.int k)) (hc : P.cellsOf t = 1) : Reader P t (Kd.int k) (fun x => (Lit.int k x).wf = true) :=
  ⟨hc, fun h => by
    obtain ⟨n, rfl, _, hw⟩ := DataW.trod_int ht h
    exact ⟨n, rfl, hw⟩⟩
theorem Reader.bool {P : Program} {t : TypeId} (ht : P.underlying t = some .bool) (hc : P.cellsOf t = 1) : Reader P t Kd.bool (fun _ => True) :=
  ⟨hc, fun h => by
    obtain ⟨b, rfl, _⟩ := DataW.trod_bool ht h
    exact ⟨b, rfl, trivial⟩⟩
theorem add_add (a : Addr) (x y : Nat) : (a.add x).add y = a.add (x + y) := by
  unfold Addr.add
  by_cases hx : x = 0
  · subst hx; simp
  · by_cases hy : y = 0
    · subst hy; simp
    · rw [if_neg hx, if_neg hy, if_neg (by omega)]
      simp [Nat.add_assoc]
theorem Reader.slice {P : Program} {t e : TypeId} {α : Type} {d : Kd α} {wf : α → Prop} (ht : P.underlying t = some (.slice e)) (hc : P.cellsOf t = 1) (r : Reader P e d wf) :
    Reader P t (Kd.slice e d) (fun xs => ∀ x ∈ xs, wf x) :=
  ⟨hc, fun {H enc w base spare held fuel cs x} h => by
    rcases open_slice ht h with ⟨rfl, _⟩ | ⟨a, len, cap, m, n, D, Pl, rfl, _, hl, hm, hmm, _, hx⟩
    · exact ⟨[], ⟨none, 0, rfl, Nat.le_refl _, Kd.C_nil _ _⟩, fun _ hx => by simp at hx⟩
    · have hlm : len ≤ m := by rw [hmm]; split <;> omega
      have key : ∀ i, i < len → ∃ y cs', d.K w y cs' ∧ wf y ∧ ∀ j u, cs'[j]? = some u → w.cell? (a.add (i * d.sz + j)) = some u := by
        intro i hi
        obtain ⟨cs', h1, h2⟩ := hx i (by omega)
        obtain ⟨y, hy, hw⟩ := r.read h2
        obtain ⟨_, hlen, hcell⟩ := World.cells?_some h1
        refine ⟨y, cs', hy, hw, fun j u hu => ?_⟩
        have hj : j < cs'.length := (List.getElem?_eq_some_iff.1 hu).1
        have := hcell j (by omega)
        rw [add_add, r.cells] at this
        rw [this, hu]
      rcases Nat.eq_zero_or_pos len with h0 | h0
      · subst h0
        exact ⟨[], ⟨some a, cap, rfl, Nat.zero_le _, ⟨rfl, by simp, fun h => absurd h (Nat.lt_irrefl 0)⟩⟩, fun _ hx => by simp at hx⟩
      have hf : ∃ f : Nat → α, ∀ i, i < len → ∃ cs', d.K w (f i) cs' ∧ wf (f i) ∧ ∀ j u, cs'[j]? = some u → w.cell? (a.add (i * d.sz + j)) = some u :=
        ⟨fun i => if h : i < len then Classical.choose (key i h) else Classical.choose (key 0 h0), fun i hi => by
            simp only [dif_pos hi]
            exact Classical.choose_spec (key i hi)⟩
      obtain ⟨f, hf⟩ := hf
      refine ⟨(List.range len).map f, ⟨some a, cap, by simp, by simpa using hl, ⟨by simp, by simp; simp only [maxLen] at hm; omega, fun h0 => ⟨a, rfl, fun j p hj => ?_⟩⟩⟩, fun y hy => ?_⟩
      · rw [List.getElem?_map] at hj
        obtain ⟨i, hi, rfl⟩ := Option.map_eq_some_iff.1 hj
        obtain ⟨hi1, hi2⟩ := List.getElem?_eq_some_iff.1 hi
        simp at hi2
        subst hi2
        obtain ⟨cs', hk, _, hcell⟩ := hf j (by simpa using hi1)
        exact ⟨cs', d.K_len hk, hk, hcell⟩
      · obtain ⟨i, hi, rfl⟩ := List.mem_map.1 hy
        exact (hf i (by simpa using hi)).choose_spec.2.1⟩

/-- The fields from cell 'off' on: each a type and the cell where it begins. -/
def FReader (P : Program) (fs : List (TypeId × Nat)) (off : Nat) {α : Type} (d : Kd α) (wf : α → Prop) : Prop :=
  ∀ {H : Type} {enc : TypeId × Value → H} {w : World} {base : Nat} {spare : Nat → Bool} {held : Bool} {n : Nat} {cs : List Value}, cs.length = off + d.sz →
    (∀ p ∈ fs, ∃ x, DataW.trod enc P w base spare held n p.1 ((cs.drop p.2).take (P.cellsOf p.1)) = some x) → ∃ a, d.K w a (cs.drop off) ∧ wf a
theorem FReader.last {P : Program} {t : TypeId} {off : Nat} {α : Type} {d : Kd α} {wf : α → Prop} (r : Reader P t d wf) : FReader P [(t, off)] off d wf := fun {H enc w base spare held n cs} hl h => by
  obtain ⟨x, hx⟩ := h (t, off) (by simp)
  obtain ⟨a, ha, hw⟩ := r.read hx
  rw [r.cells, List.take_of_length_le (by simp; omega)] at ha
  exact ⟨a, ha, hw⟩
theorem FReader.cons {P : Program} {t : TypeId} {off : Nat} {fs : List (TypeId × Nat)} {α β : Type} {d : Kd α} {d' : Kd β} {wf : α → Prop} {wf' : β → Prop} (r : Reader P t d wf) (rs : FReader P fs (off + d.sz) d' wf') :
    FReader P ((t, off) :: fs) off (Kd.pair d d') (fun x => wf x.1 ∧ wf' x.2) := fun {H enc w base spare held n cs} hl h => by
  have hl' : cs.length = off + (d.sz + d'.sz) := hl
  obtain ⟨x, hx⟩ := h (t, off) (by simp)
  obtain ⟨a, ha, hw⟩ := r.read hx
  obtain ⟨b, hb, hw'⟩ := rs (by omega) (fun p hp => h p (List.mem_cons_of_mem _ hp))
  rw [r.cells] at ha
  refine ⟨(a, b), ⟨_, _, ?_, ha, hb⟩, hw, hw'⟩
  rw [← List.drop_drop, List.take_append_drop]
theorem Reader.struct {P : Program} {t : TypeId} {fs : Array Field} {α β : Type} {d : Kd α} {wf : α → Prop} (ht : P.underlying t = some (.struct fs)) (l : List (TypeId × Nat)) (hfs : fs.toList.map (fun f => (f.type, f.offset)) = l) (hc : P.cellsOf t = d.sz) (r : FReader P l 0 d wf)
    (f : β → α) (g : α → β) (hfg : ∀ a, f (g a) = a) : Reader P t (Kd.iso d f) (fun b => wf (f b)) :=
  ⟨hc, fun {H enc w base spare held fuel cs x} h => by
    subst hfs
    obtain ⟨xs, n, _, _, hl, hlen, hf⟩ := DataW.trod_struct ht h
    obtain ⟨a, ha, hw⟩ := r (n := n) (cs := cs) (enc := enc) (w := w) (base := base) (spare := spare) (held := held) (by omega) (fun p hp => by
      obtain ⟨f, hf1, rfl⟩ := List.mem_map.1 hp
      obtain ⟨i, hi, rfl⟩ := List.getElem_of_mem hf1
      have hi' : i < fs.size := by simpa using hi
      have := hf i fs[i] (Array.getElem?_eq_getElem hi')
      rw [List.getElem?_eq_getElem (by omega)] at this
      exact ⟨_, by simpa using this⟩)
    rw [List.drop_zero] at ha
    exact ⟨g a, by show d.K w (f (g a)) cs; rw [hfg]; exact ha, by rw [hfg]; exact hw⟩⟩
theorem Reader.arr {P : Program} {t e : TypeId} {n : Nat} {α β : Type} {d : Kd α} {wf : α → Prop} (ht : P.underlying t = some (.array n e)) (l : List (TypeId × Nat)) (hfs : (List.range n).map (fun i => (e, i * P.cellsOf e)) = l) (hc : P.cellsOf t = d.sz) (r : FReader P l 0 d wf)
    (f : β → α) (g : α → β) (hfg : ∀ a, f (g a) = a) : Reader P t (Kd.iso d f) (fun b => wf (f b)) :=
  ⟨hc, fun {H enc w base spare held fuel cs x} h => by
    subst hfs
    obtain ⟨xs, m, _, _, hl, hlen, hf⟩ := DataW.trod_array ht h
    obtain ⟨a, ha, hw⟩ := r (n := m) (cs := cs) (enc := enc) (w := w) (base := base) (spare := spare) (held := held) (by omega) (fun p hp => by
      obtain ⟨i, hi, rfl⟩ := List.mem_map.1 hp
      have hi' : i < n := by simpa using hi
      have := hf i hi'
      rw [List.getElem?_eq_getElem (by omega)] at this
      exact ⟨_, this⟩)
    rw [List.drop_zero] at ha
    exact ⟨g a, by show d.K w (f (g a)) cs; rw [hfg]; exact ha, by rw [hfg]; exact hw⟩⟩
/-- An argument that is a slice: the row it tells. -/
theorem Reader.row {P : Program} {t e : TypeId} {α : Type} {d : Kd α} {wf : List α → Prop} (r : Reader P t (Kd.slice e d) wf) {H : Type} {enc : TypeId × Value → H} {w : World} {base : Nat} {spare : Nat → Bool} {held : Bool} {a : Option Addr} {n c : Nat} {x : DataW H} {ps : List MemPlace}
    (h : DataW.Trod enc P w base spare held t (.slice a n c) x ps) : ∃ l : List α, n = l.length ∧ l.length ≤ c ∧ d.C w a l.length l ∧ wf l := by
  obtain ⟨fuel, hf⟩ := h
  obtain ⟨l, ⟨A, c', hcs, hl, hC⟩, hw⟩ := r.read hf
  simp [Value.cells] at hcs
  obtain ⟨rfl, rfl, rfl⟩ := hcs
  exact ⟨l, rfl, hl, hC, hw⟩
/-- An argument that is a struct or an array. -/
theorem Reader.agg {P : Program} {t : TypeId} {α : Type} {d : Kd α} {wf : α → Prop} (r : Reader P t d wf) {H : Type} {enc : TypeId × Value → H} {w : World} {base : Nat} {spare : Nat → Bool} {held : Bool} {cs : Array Value} {x : DataW H} {ps : List MemPlace}
    (h : DataW.Trod enc P w base spare held t (.agg cs) x ps) : ∃ a : α, d.K w a cs.toList ∧ wf a := by
  obtain ⟨fuel, hf⟩ := h
  exact r.read hf
theorem okWide_arr {P : Program} {w : World} {r : Reach} {base : Nat} {t e : TypeId} {n : Nat} {v : Value} (ht : P.underlying t = some (.array n e)) (h : Value.okWide P w r base t v) : ∃ cs, v = .agg cs := by
  simp only [Value.okWide, ht] at h
  obtain ⟨cs, h1, _⟩ := h
  exact ⟨cs, h1⟩
end Go.Proofs.Ytfjnpdgjigkbcaa.Help

/- slices.Max at []int returns the greatest number of a list that is not empty. -/
namespace Go.Proofs.Ytfjnpdgjigkbcaa.PAll
open Go.RowKit Go.Proofs.YtfjnpdgjigkbcaaW.PrintWords Go.Proofs.YtfjnpdgjigkbcaaW.PrintLast Go.Proofs.YtfjnpdgjigkbcaaW.PrintMore
set_option linter.unusedVariables false
set_option linter.unusedSimpArgs false
def slices_Max_int_int.f (l0 : List Int) : Option (Int) := if 0 < l0.length then some (Go.Lib.maxOf l0) else none
theorem slices_Max_int_int.calls (A0 : Option Addr) (c0 : Nat) (l0 : List Int) (r : Int) (w : World) (hr0 : Kd.C (Kd.int .i64) w A0 l0.length l0) (hc0 : l0.length ≤ c0) (h : slices_Max_int_int.f l0 = some r) :
    Calls Try.prog 38 #[.slice A0 l0.length c0] w fun e w' => e = .returned (.int .i64 r) ∧ Drawn0 w w' := by
  unfold slices_Max_int_int.f at h
  split at h
  · rename_i h0
    injection h with h
    subst h
    have hm := Kd.C_max hr0
    obtain ⟨b, off, rfl, hc⟩ := Help.int_cells hr0 h0
    refine (Try.slices_Max_int b off l0.length c0 l0 w h0 (Nat.le_refl _) hm hc).mono ?_
    rintro e w' ⟨rfl, rfl⟩
    rw [List.take_length]
    exact ⟨rfl, 0, rfl⟩
  · cases h
end Go.Proofs.Ytfjnpdgjigkbcaa.PAll

/- slices.Sort and slices.Compact at []int, of a slice that the call owns. -/
namespace Go.Proofs.Ytfjnpdgjigkbcaa.Help
set_option linter.unusedVariables false
set_option linter.unusedSimpArgs false
open Go.RowKit Go.Sort Go.Proofs.YtfjnpdgjigkbcaaW.PrintWords

theorem sort_own {W : World} {base : Nat} {v : Value} {l : List Int} (h : W.ownsRow base 3 1 v l.length (l.map (Value.int .i64))) (hl : l.length < 4611686018427387904) :
    Calls Try.prog 47 #[v] W fun e w2 => e = .returned (.tuple #[]) ∧ W.grownBy w2 v.ownBlock ∧ w2.ownsRow base 3 1 v l.length ((l.mergeSort fun x y => decide (x ≤ y)).map (Value.int .i64)) := by
  rcases Nat.eq_zero_or_pos l.length with h0 | h0
  · obtain rfl := List.eq_nil_of_length_eq_zero h0
    obtain ⟨A, c, rfl⟩ := own_slice h
    refine (Try.slices_Sort_int_none A c W).mono ?_
    rintro e w2 ⟨rfl, rfl⟩
    exact ⟨rfl, ⟨rfl, rfl, rfl, Nat.le_refl _, fun _ _ _ => rfl⟩, by simpa using h⟩
  · obtain ⟨g, cap, rfl, hb, hlt⟩ := h.form h0
    rcases h.2 with ⟨h1, _⟩ | ⟨g', cap', cur, hv, hbase, hh, hn, hcm, hcs, htake⟩
    · cases h1
    · cases hv
      rw [Nat.mul_one] at htake
      have hH := holds_of_blockI hh htake
      refine (Try.slices_Sort_int g 0 cap l W hH hlt hl).mono ?_
      rintro e w2 ⟨rfl, n, os, rfl⟩
      exact ⟨rfl, grownBy_sortedI _, ownsRow_sortedI (by rw [List.length_mergeSort]) hbase hh hn hcm hcs⟩

theorem compact_own {W : World} {base : Nat} {v : Value} {l : List Int} (h : W.ownsRow base 3 1 v l.length (l.map (Value.int .i64))) (hl : l.length < 4611686018427387904) :
    Calls Try.prog 48 #[v] W fun e w2 => ∃ v2, e = .returned v2 ∧ W.grownBy w2 v.ownBlock ∧ v2.ownBlock = v.ownBlock ∧ w2.ownsRow base 3 1 v2 (Go.Lib.compact l).length ((Go.Lib.compact l).map (Value.int .i64)) := by
  rcases Nat.eq_zero_or_pos l.length with h0 | h0
  · obtain rfl := List.eq_nil_of_length_eq_zero h0
    obtain ⟨A, c, rfl⟩ := own_slice h
    refine (Try.slices_Compact_int_empty A c W).mono ?_
    rintro e w2 ⟨rfl, rfl⟩
    exact ⟨_, rfl, ⟨rfl, rfl, rfl, Nat.le_refl _, fun _ _ _ => rfl⟩, rfl, by simpa [Go.Lib.compact, Go.Lib.compactUpTo] using h⟩
  · obtain ⟨g, cap, rfl, hb, hlt⟩ := h.form h0
    rcases h.2 with ⟨h1, _⟩ | ⟨g', cap', cur, hv, hbase, hh, hn, hcm, hcs, htake⟩
    · cases h1
    · cases hv
      rw [Nat.mul_one] at htake
      have hH := holds_of_blockI hh htake
      have hcl : (Go.Lib.compact l).length ≤ l.length := by
        unfold Go.Lib.compact Go.Lib.compactUpTo
        rw [List.length_map]
        exact Nat.le_trans (List.length_filter_le _ _) (by simp)
      refine (Try.slices_Compact_int g 0 cap l W hH (by omega) hn).mono ?_
      rintro e w2 ⟨rfl, q, rfl⟩
      have e1 : ∀ d : Array Int, putRow (Value.int .i64) (Sort.ahead W q) g 0 d = grow (putRow (Value.int .i64) (Sort.ahead W q) g 0 d) #[] := fun d => (grow_empty _).symm
      have hlen : (Go.Lib.compact l ++ List.replicate (l.length - (Go.Lib.compact l).length) 0).length = l.length := by simp; omega
      rw [e1]
      have ho := ownsRow_sortedI (w := W) (base := base) (n := q) (os := #[]) (ss := l) (ts := Go.Lib.compact l ++ List.replicate (l.length - (Go.Lib.compact l).length) 0) hlen hbase hh hn hcm hcs
      have hr : Kd.R (Kd.int .i64) 3 _ base (fun _ => True) (.slice (some ⟨g, 0, none⟩) l.length cap) (Go.Lib.compact l ++ List.replicate (l.length - (Go.Lib.compact l).length) 0) := Kd.R_of_own (by rw [hlen]; exact ho) (fun _ _ => trivial)
      have hr2 := Kd.own_of_R (Kd.R_take hr (m := (Go.Lib.compact l).length) (by simp))
      rw [List.take_left] at hr2
      exact ⟨_, rfl, grownBy_sortedI _, rfl, hr2⟩
end Go.Proofs.Ytfjnpdgjigkbcaa.Help

/- avalanche.find returns the index of the first path with an ID, or -1. No condition. -/
namespace Go.Proofs.Ytfjnpdgjigkbcaa.PAll
open Go.RowKit Go.Proofs.YtfjnpdgjigkbcaaW.PrintWords Go.Proofs.YtfjnpdgjigkbcaaW.PrintLast Go.Proofs.YtfjnpdgjigkbcaaW.PrintMore
set_option linter.unusedVariables false
set_option linter.unusedSimpArgs false

def findAt : List S34 → Int → Int → Int
  | [], _, _ => -1
  | s :: r, id, i => if s.f0 = id then i else findAt r id (i + 1)
def avalanche_find.f (l0 : List (S34)) (a1 : Int) : Option (Int) := some (findAt l0 a1 0)

theorem find1 (B : Nat) (id : Int) (f0 f3 f4 f5 : Int) (v1 v2 : Value) (W : World) (hc : W.cell? ⟨B, 0, none⟩ = some (.int .i64 id)) :
    Calls Try.prog 44 #[.agg #[.int .i64 f0, v1, v2, .int .i64 f3, .int .i64 f4, .int .i64 f5], .pointer (some ⟨B, 0, none⟩)] W fun e w' => e = .returned (.bool (decide (f0 = id))) ∧ Below W.heap.size W w' := by
  have hc2 : (W.alloc (.cells #[.int .i64 f0, v1, v2, .int .i64 f3, .int .i64 f4, .int .i64 f5] 34)).cell? ⟨B, 0, none⟩ = some (.int .i64 id) := pw_cell_below (below_alloc (Below.refl _ _) _) hc
  clear hc
  have hu34 := Try.underlying34
  go_enter Try.func44, Try.ntmps44
  go_wp2
  go_ret
  exact ⟨rfl, below_alloc (Below.refl _ _) _⟩

set_option maxHeartbeats 1000000 in
theorem indexFunc (B : Nat) (id : Int) (A : Option Addr) (c : Nat) (l : List S34) (w : World) (hC : Kd.C k34 w A l.length l) (hc : w.cell? ⟨B, 0, none⟩ = some (.int .i64 id)) :
    Calls Try.prog 43 #[.slice A l.length c, .func (.func 44) #[] #[.pointer (some ⟨B, 0, none⟩)]] w fun e w' => e = .returned (.int .i64 (findAt l id 0)) ∧ Below w.heap.size w w' := by
  have hu34 := Try.underlying34
  have hmax := Kd.C_max hC
  have HC := Aside0.mk hC
  have HCC := Aside0.mk hc
  clear hC hc
  go_enter Try.func43, Try.ntmps43
  go_wp2
  go_loopg [5, 8] l.length (fun gg _ s8 wr => ∃ kk : Nat, kk ≤ l.length ∧ l.length - kk ≤ gg ∧ s8 = .int .i64 kk ∧ Aside0 (Below w.heap.size w wr) ∧ Aside0 (findAt l id 0 = findAt (l.drop kk) id kk))
  case atStart => exact ⟨0, Nat.zero_le _, by omega, rfl, ⟨Below.refl _ w⟩, ⟨by simp⟩⟩
  case round =>
    obtain ⟨kk, hkk, hg, rfl, BW, HA⟩ := hrel
    by_cases hlt : kk < l.length
    · have hltz : (kk : Int) < (l.length : Int) := by omega
      obtain ⟨ad, A1, c1, A2, c2, rfl, hx0, hx1, hx2, hx3, hx4, hx5, _⟩ := at_T34 (Kd.C_below HC.out BW.out) (kk : Int) (by omega) (by omega)
      rw [Int.toNat_natCast] at hx0 hx1 hx2 hx3 hx4 hx5
      have hcell := pw_cell_below BW.out HCC.out
      obtain ⟨g, hgd⟩ : ∃ g, g = rd_T34 l (kk : Int) := ⟨_, rfl⟩
      rw [← hgd] at hx0 hx1 hx2 hx3 hx4 hx5
      have hgl : l.drop kk = g :: l.drop (kk + 1) := by
        rw [hgd, List.drop_eq_getElem_cons hlt]; simp [rd_T34, List.getD_eq_getElem?_getD, hlt]
      have HG := Aside0.mk hgl
      have hcall := find1 B id g.f0 g.f3 g.f4 g.f5 (.slice A1 g.f1.length c1) (.slice A2 g.f2.length c2) wr hcell
      clear hcell hgl hgd
      cases hq : decide (g.f0 = id) with
      | true =>
        rw [hq] at hcall
        have HQ := Aside0.mk hq
        clear hq
        go_wp2_with (go_at_call 44; refine hcall.mono ?_; rintro e w' ⟨rfl, hb'⟩)
        go_ret
        refine ⟨?_, BW.out.trans (hb'.mono BW.out.size)⟩
        rw [HA.out, HG.out]
        simp only [findAt, if_pos (of_decide_eq_true HQ.out)]
        rfl
      | false =>
        rw [hq] at hcall
        have HQ := Aside0.mk hq
        clear hq
        go_wp2_with (go_at_call 44; refine hcall.mono ?_; rintro e w' ⟨rfl, hb'⟩)
        go_roundg (l.length - (kk + 1))
        case measure => omega
        case rel =>
          refine ⟨kk + 1, by omega, by omega, by go_num, ⟨BW.out.trans (hb'.mono BW.out.size)⟩, ⟨?_⟩⟩
          rw [HA.out, HG.out]
          simp only [findAt, if_neg (of_decide_eq_false HQ.out)]
          rfl
    · have hltz : ¬ (kk : Int) < (l.length : Int) := by omega
      obtain rfl : kk = l.length := by omega
      go_wp2
      go_ret
      refine ⟨?_, BW.out⟩
      rw [HA.out, List.drop_length]; rfl

theorem avalanche_find.calls (A0 : Option Addr) (c0 : Nat) (l0 : List (S34)) (a1 : Int) (r : Int) (w : World) (hr0 : Kd.C k34 w A0 l0.length l0) (hc0 : l0.length ≤ c0) (h : avalanche_find.f l0 a1 = some r) :
    Calls Try.prog 34 #[.slice A0 l0.length c0, .int .i64 a1] w fun e w' => e = .returned (.int .i64 r) ∧ Below w.heap.size w w' := by
  unfold avalanche_find.f at h
  injection h with h
  subst h
  have hC := Aside0.mk (Kd.C_alloc hr0 (.cells #[.int .i64 a1] 3))
  clear hr0
  go_enter Try.func34, Try.ntmps34
  go_wp2_with (go_at_call 43; refine (indexFunc _ _ _ _ _ _ hC.out (by have h_ := heap_alloc_new w (.cells #[.int .i64 a1] 3); unfold World.cell?; rw [h_]; rfl)).mono ?_; rintro e w' ⟨rfl, hb'⟩)
  go_ret
  exact ⟨rfl, (below_alloc (Below.refl _ _) _).trans (hb'.mono (by simp))⟩
end Go.Proofs.Ytfjnpdgjigkbcaa.PAll
