/- The reference's Right of products: whatever it returns, 0 only for products whose season, kind and lists are in bounds. -/
import Derived.Test.YtbfflokkdahjjaaGOneK0
import Derived.Test.YtbfflokkdahjjaaGOneK1
import Derived.Test.YtbfflokkdahjjaaGOneK2
import Derived.Test.YtbfflokkdahjjaaGOneBad
namespace Go.Proofs.Ytbfflokkdahjjaa.PV
open Go.RowKit Go.Proofs.Ytbfflokkdahjjaa.PAll Go.Proofs.Ytbfflokkdahjjaa.Pure Go.Proofs.YtbfflokkdahjjaaW.PrintWords Go.Proofs.YtbfflokkdahjjaaW.PrintLast Go.Proofs.YtbfflokkdahjjaaW.PrintMore
set_option linter.unusedVariables false
set_option linter.unusedSimpArgs false
theorem one_c (p : S40) (A : Option Addr) (c : Nat) (B : Option Addr) (d : Nat) (l : List (S40)) (L : Option Addr) (cl : Nat) (w : World) (h : PR0 w p A c B d) (hC : Kd.C k40 w L l.length l) (hc : l.length ≤ cl) :
    Calls Try.prog 16 #[.agg #[.int .i64 p.f0, .int .i64 p.f1, .int .i64 p.f2, .int .i64 p.f3, .int .i64 p.f4, .slice A p.f5.length c, .slice B p.f6.length d, .int .i64 p.f7.f0, .int .i64 p.f7.f1, .int .i64 p.f8], .slice L l.length cl] w fun e w' => (∃ r : Int, e = .returned (.int .i64 r) ∧ (r = 0 → good p)) ∧ Below w.heap.size w w' := by
  by_cases hf : first22 p
  · rcases hf.2.2.1 with hk | hk | hk
    · exact one_k0 p A c B d l L cl w h hC hc hf hk
    · exact one_k1 p A c B d l L cl w h hC hc hf hk
    · exact one_k2 p A c B d l L cl w h hC hc hf hk
  · exact one_bad p A c B d l L cl w hf
theorem one_n (p : S40) (A : Option Addr) (c : Nat) (B : Option Addr) (d : Nat) (l : List (S40)) (L : Option Addr) (n cl : Nat) (w : World) (h : PR0 w p A c B d) (hC : Kd.C k40 w L l.length l) (hn : l.length = n) (hc : n ≤ cl) :
    Calls Try.prog 16 #[.agg #[.int .i64 p.f0, .int .i64 p.f1, .int .i64 p.f2, .int .i64 p.f3, .int .i64 p.f4, .slice A p.f5.length c, .slice B p.f6.length d, .int .i64 p.f7.f0, .int .i64 p.f7.f1, .int .i64 p.f8], .slice L n cl] w fun e w' => (∃ r : Int, e = .returned (.int .i64 r) ∧ (r = 0 → good p)) ∧ Below w.heap.size w w' := by
  subst hn
  exact one_c p A c B d l L cl w h hC hc
theorem C_take {W : World} {A : Option Addr} {l : List (S40)} {k : Nat} (h : Kd.C k40 W A l.length l) (hk : k ≤ l.length) : Kd.C k40 W A (l.take k).length (l.take k) := by
  refine ⟨rfl, by have := h.2.1; rw [List.length_take]; omega, fun h0 => ?_⟩
  rw [List.length_take] at h0
  obtain ⟨ad, e, hc⟩ := h.2.2 (by omega)
  exact ⟨ad, e, fun j p hj => hc j p (by rw [List.getElem?_take] at hj; split at hj <;> simp_all)⟩
def st_T6 : Bool × List (List Nat × List Nat) := (true, [([], []), ([], []), ([0, 1], [0, 1]), ([2], [2]), ([], []), ([], []), ([4, 5], [4, 5]), ([3, 6], [3, 6]), ([7, 7, 0, 1, 2, 3, 4, 5, 6, 7], [7])])
def st_B6 : List Nat := [0, 0, 3, 7, 0, 0, 48, 127, 255]
theorem st_tab6 : rtab .any (opsOf Try.f7 6) = st_T6 := by kernel_rfl
theorem st_bits6 : waitsOk st_T6.2 st_B6 = true := by kernel_rfl
set_option maxHeartbeats 4000000 in
set_option maxRecDepth 100000 in
theorem right22_c (A : Option Addr) (c : Nat) (l : List (S40)) (w : World) (hC : Kd.C k40 w A l.length l) (hc : l.length ≤ c) :
    Calls Try.prog 7 #[.slice A l.length c] w fun e w' => (∃ r : Int, e = .returned (.int .i64 r) ∧ (r = 0 → l.length ≤ 64 ∧ ∀ p ∈ l, good p)) ∧ Below w.heap.size w w' := by
  have HC := Aside0.mk hC
  have HCC := Aside0.mk hc
  have hmax := Kd.C_max hC
  have hu := Try.underlying40
  clear hC hc
  by_cases h64 : l.length ≤ 64
  · have hz : ¬ (64 : Int) < (l.length : Int) := by omega
    go_enter Try.func7, Try.ntmps7
    go_wp2
    go_loopg [3] l.length (fun gg s3 wr => ∃ k : Nat, k ≤ l.length ∧ l.length - k ≤ gg ∧ s3 = .int .i64 (k : Int) ∧ Aside0 (Below w.heap.size w wr) ∧ Aside0 (∀ p ∈ l.take k, good p))
    case atStart => exact ⟨0, Nat.zero_le _, by omega, rfl, ⟨Below.refl _ _⟩, ⟨fun p hp => by simp at hp⟩⟩
    case round =>
      obtain ⟨k, hk, hg, rfl, BW, HG⟩ := hrel
      by_cases hlt : k < l.length
      · have hltz : (k : Int) < (l.length : Int) := by omega
        obtain ⟨ad, A5, c5, A6, c6, rfl, hx0, hx1, hx2, hx3, hx4, hx5, hx6, hx7, hx8, hx9, hc5, hC5, hc6, hC6⟩ := at_T40 (Kd.C_below HC.out BW.out) (k : Int) (by omega) (by omega)
        rw [Int.toNat_natCast] at hx0 hx1 hx2 hx3 hx4 hx5 hx6 hx7 hx8 hx9
        have hq1 : l.take (k + 1) = l.take k ++ [l[k]] := List.take_succ_eq_append_getElem hlt
        obtain ⟨q, hq⟩ : ∃ q, q = rd_T40 l (k : Int) := ⟨_, rfl⟩
        rw [← hq] at hx0 hx1 hx2 hx3 hx4 hx5 hx6 hx7 hx8 hx9 hc5 hC5 hc6 hC6
        have HQ := Aside0.mk (show l.take (k + 1) = l.take k ++ [q] from by rw [hq1, hq, rd_prod l k hlt])
        clear hq1 hq
        have hkc : k ≤ c := by have := HCC.out; omega
        go_wp2
        have hb8 : Below wr.heap.size wr wr.drew := below_drew (Below.refl _ _)
        refine start_ (n := 9) (S := fun w' => w'.cell? (ad.add (k * 10)) = some (.int .i64 q.f0) ∧ w'.cell? ⟨(ad.add (k * 10)).block, (ad.add (k * 10)).off + 1, none⟩ = some (.int .i64 q.f1) ∧ w'.cell? ⟨(ad.add (k * 10)).block, (ad.add (k * 10)).off + 2, none⟩ = some (.int .i64 q.f2) ∧ w'.cell? ⟨(ad.add (k * 10)).block, (ad.add (k * 10)).off + 3, none⟩ = some (.int .i64 q.f3) ∧ w'.cell? ⟨(ad.add (k * 10)).block, (ad.add (k * 10)).off + 4, none⟩ = some (.int .i64 q.f4) ∧ w'.cell? ⟨(ad.add (k * 10)).block, (ad.add (k * 10)).off + 5, none⟩ = some (.slice A5 q.f5.length c5) ∧ w'.cell? ⟨(ad.add (k * 10)).block, (ad.add (k * 10)).off + 6, none⟩ = some (.slice A6 q.f6.length c6) ∧ w'.cell? ⟨(ad.add (k * 10)).block, (ad.add (k * 10)).off + 7, none⟩ = some (.int .i64 q.f7.f0) ∧ w'.cell? ⟨(ad.add (k * 10)).block, (ad.add (k * 10)).off + 8, none⟩ = some (.int .i64 q.f7.f1) ∧ w'.cell? ⟨(ad.add (k * 10)).block, (ad.add (k * 10)).off + 9, none⟩ = some (.int .i64 q.f8)) (ds := []) #[false, false, false, false, false, false, false, false, false] (by kernel_rfl) rfl rfl ⟨hx0, hx1, hx2, hx3, hx4, hx5, hx6, hx7, hx8, hx9⟩ (fun hHeld => ?_); refine with_tabW st_tab6 st_bits6 (fun HT_ HW_ => ?_)
        have BW8 := Aside0.mk (BW.out.trans (hb8.mono BW.out.size))
        have HPR := Aside0.mk (PR0.below (PR0.mk hC5 hc5 hC6 hc6) hb8)
        have HCT := Aside0.mk (Kd.C_below (Kd.C_below HC.out BW.out) hb8)
        clear hb8
        generalize wr.drew = w8 at BW8 HPR HCT hHeld ⊢
        refine pure_ (i := 0) (N := some 14) (v := ?_) (a' := ?_) #[true, false, false, false, false, false, false, false, false] rfl rfl (any_of HT_.out (by kernel_rfl)) (fun _ _ _ h => h) (Or.inl ⟨by rfl, ?_⟩) ?_ ?_
        rotate_left
        · intro w'
          go_simp
          with_reducible rfl
        rotate_left
        · simp only [Act.put, List.setIfInBounds_toArray, List.set_cons_zero, List.set_cons_succ, i64_w, i32_w]
          rfl
        refine pure_ (i := 1) (N := some 15) (v := ?_) (a' := ?_) #[true, true, false, false, false, false, false, false, false] rfl rfl (any_of HT_.out (by kernel_rfl)) (fun _ _ _ h => h) (Or.inl ⟨by rfl, ?_⟩) ?_ ?_
        rotate_left
        · intro w'
          go_simp
          with_reducible rfl
        rotate_left
        · simp only [Act.put, List.setIfInBounds_toArray, List.set_cons_zero, List.set_cons_succ, i64_w, i32_w]
          rfl
        refine pure_ (i := 4) (N := some 18) (v := ?_) (a' := ?_) #[true, true, false, false, true, false, false, false, false] rfl rfl (any_of HT_.out (by kernel_rfl)) (fun _ _ _ h => h) (Or.inl ⟨by rfl, ?_⟩) ?_ ?_
        rotate_left
        · intro w'
          go_simp
          with_reducible rfl
        rotate_left
        · simp only [Act.put, List.setIfInBounds_toArray, List.set_cons_zero, List.set_cons_succ, i64_w, i32_w]
          rfl
        refine pure_ (i := 5) (N := some 19) (v := ?_) (a' := ?_) #[true, true, false, false, true, true, false, false, false] rfl rfl (any_of HT_.out (by kernel_rfl)) (fun _ _ _ h => h) (Or.inl ⟨by rfl, ?_⟩) ?_ ?_
        rotate_left
        · intro w'
          go_simp
          with_reducible rfl
        rotate_left
        · simp only [Act.put, List.setIfInBounds_toArray, List.set_cons_zero, List.set_cons_succ, i64_w, i32_w]
          rfl
        refine pure_ (i := 2) (N := some 16) (v := ?_) (a' := ?_) #[true, true, true, false, true, true, false, false, false] rfl rfl (any_of HT_.out (by kernel_rfl)) (fun _ _ _ h => h) (Or.inl ⟨by rfl, ?_⟩) ?_ ?_
        rotate_left
        · intro w'
          go_simp
          with_reducible rfl
        rotate_left
        · simp only [Act.put, List.setIfInBounds_toArray, List.set_cons_zero, List.set_cons_succ, i64_w, i32_w]
          rfl
        refine pure_ (i := 6) (N := some 20) (v := ?_) (a' := ?_) #[true, true, true, false, true, true, true, false, false] rfl rfl (any_of HT_.out (by kernel_rfl)) (fun _ _ _ h => h) (Or.inl ⟨by rfl, ?_⟩) ?_ ?_
        rotate_left
        · intro w'
          go_simp
          with_reducible rfl
        rotate_left
        · simp only [Act.put, List.setIfInBounds_toArray, List.set_cons_zero, List.set_cons_succ, i64_w, i32_w]
          rfl
        refine take_ (i := 3) (N := some 17) (v := ?_) (a' := ?_) #[true, true, true, true, true, true, true, false, false] rfl rfl (take_ofW HT_.out HW_.out (by kernel_rfl)) (fun _ _ _ h => h) (Or.inl ⟨by rfl, ?_⟩) hHeld ?_ ?_
        rotate_left
        · rintro w' ⟨s0, s1, s2, s3, s4, s5, s6, s7, s8, s9⟩
          go_simp
          with_reducible rfl
        rotate_left
        · simp only [Act.put, List.setIfInBounds_toArray, List.set_cons_zero, List.set_cons_succ, i64_w, i32_w]
          rfl
        refine one_ (i := 7) (N := some 21) #[true, true, true, true, true, true, true, true, false] rfl rfl (one_of HT_.out (by kernel_rfl)) (by decide) (fun K hK => ?_)
        refine goes_ Try.func16 (by kernel_rfl) rfl #[.agg #[.int .i64 q.f0, .int .i64 q.f1, .int .i64 q.f2, .int .i64 q.f3, .int .i64 q.f4, .slice A5 q.f5.length c5, .slice A6 q.f6.length c6, .int .i64 q.f7.f0, .int .i64 q.f7.f1, .int .i64 q.f8], .slice (some ad) k c] (by rfl) rfl rfl (by (try simp only [List.map_toArray, List.map_cons, List.map_nil]); first | done | rfl) ?_
        refine (one_n q A5 c5 A6 c6 (l.take k) (some ad) k c _ HPR.out (C_take HCT.out (by omega)) (by rw [List.length_take]; omega) (by have := HCC.out; omega)).mono ?_
        rintro e w9 ⟨⟨r, rfl, hz⟩, hb⟩
        refine ⟨_, rfl, ?_⟩
        have HZ := Aside0.mk hz
        have BW9 := Aside0.mk (BW8.out.trans (hb.mono BW8.out.size))
        have hh9 := hHeld
        refine hK.out _ _ ⟨pw_cell_below hb hh9.1, pw_cell_below hb hh9.2.1, pw_cell_below hb hh9.2.2.1, pw_cell_below hb hh9.2.2.2.1, pw_cell_below hb hh9.2.2.2.2.1, pw_cell_below hb hh9.2.2.2.2.2.1, pw_cell_below hb hh9.2.2.2.2.2.2.1, pw_cell_below hb hh9.2.2.2.2.2.2.2.1, pw_cell_below hb hh9.2.2.2.2.2.2.2.2.1, pw_cell_below hb hh9.2.2.2.2.2.2.2.2.2⟩ (fun hHeld => ?_)
        clear hK K hb hz hh9
        refine norm_ (a' := ?_) ?_ ?_
        rotate_left
        · show Act.put _ (some 21) _ = _
          simp only [Act.put, List.setIfInBounds_toArray, List.set_cons_zero, List.set_cons_succ, i64_w, i32_w]
          rfl
        refine pure_ (i := 8) (N := some 4) (v := ?_) (a' := ?_) #[true, true, true, true, true, true, true, true, true] rfl rfl (any_of HT_.out (by kernel_rfl)) (fun _ _ _ h => h) (Or.inl ⟨by rfl, ?_⟩) ?_ ?_
        rotate_left
        · intro w'
          go_simp
          with_reducible rfl
        rotate_left
        · simp only [Act.put, List.setIfInBounds_toArray, List.set_cons_zero, List.set_cons_succ, i64_w, i32_w]
          rfl
        clear hHeld
        refine done_ (done_of HT_.out (by kernel_rfl)) ?_
        try go_wp2
        · go_ret
          exact ⟨⟨r, rfl, fun h => absurd h (by simpa using (by assumption : (r != 0) = true))⟩, BW9.out⟩
        · go_roundg (l.length - (k + 1))
          case measure => omega
          case rel => exact ⟨k + 1, by omega, by omega, by go_num, BW9, Aside0.mk (fun p hp => by
            rw [HQ.out] at hp
            rcases List.mem_append.1 hp with hp | hp
            · exact HG.out p hp
            · rw [List.mem_singleton.1 hp]; exact HZ.out (by simpa using (by assumption : (r != 0) = false)))⟩
      · have hltz : ¬ (k : Int) < (l.length : Int) := by omega
        obtain rfl : k = l.length := by omega
        go_wp2
        go_ret
        exact ⟨⟨0, rfl, fun _ => by first | exact ⟨h64, fun p hp => HG.out p (by rw [List.take_length]; exact hp)⟩ | exact fun p hp => HG.out p (by rw [List.take_length]; exact hp)⟩, BW.out⟩
  · have hz : (64 : Int) < (l.length : Int) := by omega
    go_enter Try.func7, Try.ntmps7
    go_wp2
    go_ret
    exact ⟨⟨4, rfl, fun h => by simp at h⟩, Below.refl _ _⟩
end Go.Proofs.Ytbfflokkdahjjaa.PV
