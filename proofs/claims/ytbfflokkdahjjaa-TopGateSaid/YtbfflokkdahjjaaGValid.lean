/- Contracts in plain words: Find, Area, Open, Has, Day, Sign, Check; valid.used, Why and Use. Each theorem states its conditions. -/
import Derived.Test.YtbfflokkdahjjaaPAllx10
import Derived.Test.YtbfflokkdahjjaaPAllB
import Derived.Test.YtbfflokkdahjjaaPAllx6
import Derived.Test.YtbfflokkdahjjaaPAllx7
import Derived.Test.YtbfflokkdahjjaaPAllx8
import Derived.Test.YtbfflokkdahjjaaUTag
import Derived.Test.YtbfflokkdahjjaaGClock
import Derived.Test.YtbfflokkdahjjaaGBox
namespace Go.Proofs.Ytbfflokkdahjjaa.PV
open Go.RowKit Go.Proofs.Ytbfflokkdahjjaa.PAll Go.Proofs.Ytbfflokkdahjjaa.Pure Go.Proofs.YtbfflokkdahjjaaW.PrintWords Go.Proofs.YtbfflokkdahjjaaW.PrintLast Go.Proofs.YtbfflokkdahjjaaW.PrintMore
set_option linter.unusedVariables false
set_option linter.unusedSimpArgs false
/-- A medium. -/
structure M9 where
  (f0 f1 f2 f3 f4 f5 f6 f7 f8 : Int)
/-- A gate. -/
structure G8 where
  (f0 f1 f2 f3 f4 f5 : Int)
  f6 : List Int
  f7 : Int
/-- A ride. -/
structure R7 where
  (f0 f1 f2 f3 f4 f5 f6 : Int)
/-- A product whose lists can be read. -/
structure PR (w : World) (p : S40) (A : Option Addr) (c : Nat) (B : Option Addr) (d : Nat) : Prop where
  C5 : Kd.C (Kd.int .i64) w A p.f5.length p.f5
  c5 : p.f5.length ≤ c
  C6 : Kd.C k73 w B p.f6.length p.f6
  c6 : p.f6.length ≤ d
  few : p.f5.length ≤ 1000000
theorem PR.below {w w1 : World} {p : S40} {A : Option Addr} {c : Nat} {B : Option Addr} {d : Nat} (h : PR w p A c B d) (hb : Below w.heap.size w w1) : PR w1 p A c B d := ⟨Kd.C_below h.C5 hb, h.c5, Kd.C_below h.C6 hb, h.c6, h.few⟩
theorem find_c (A : Option Addr) (c : Nat) (l : List (S40)) (id : Int) (w : World) (hC : Kd.C k40 w A l.length l) (hc : l.length ≤ c) (hf : Few l) (hb : l.length ≤ 1000000) :
    Calls Try.prog 9 #[.slice A l.length c, .int .i64 id] w fun e w' => ∃ u v, e = .returned (.tuple #[.agg #[.int .i64 (findP l id).1.f0, .int .i64 (findP l id).1.f1, .int .i64 (findP l id).1.f2, .int .i64 (findP l id).1.f3, .int .i64 (findP l id).1.f4, u, v, .int .i64 (findP l id).1.f7.f0, .int .i64 (findP l id).1.f7.f1, .int .i64 (findP l id).1.f8], .bool (findP l id).2]) ∧ Kd.R (Kd.int .i64) 3 w' w.heap.size (fun _ => True) u (findP l id).1.f5 ∧ Kd.R k73 73 w' w.heap.size (fun _ => True) v (findP l id).1.f6 ∧ Below w.heap.size w w' := by
  obtain ⟨k, hk⟩ := (find l id hf hb).rounds
  exact product_Find.calls k A c l id _ _ _ _ _ _ _ _ _ _ _ w hC hc hk
theorem area_c (p : S40) (A : Option Addr) (c : Nat) (B : Option Addr) (d : Nat) (op : Int) (w : World) (h : PR w p A c B d) :
    Calls Try.prog 21 #[.agg #[.int .i64 p.f0, .int .i64 p.f1, .int .i64 p.f2, .int .i64 p.f3, .int .i64 p.f4, .slice A p.f5.length c, .slice B p.f6.length d, .int .i64 p.f7.f0, .int .i64 p.f7.f1, .int .i64 p.f8], .int .i64 op] w fun e w' => e = .returned (.bool (decide (op ∈ p.f5))) ∧ Below w.heap.size w w' := by
  obtain ⟨k, hk⟩ := (contains p.f5 op h.few).rounds
  exact product_Area.calls k _ _ _ _ _ A c p.f5 B d p.f6 _ _ _ op _ w h.C5 h.c5 h.C6 h.c6 (by unfold product_Area.f; rw [hk]; rfl)
theorem has_c (v : Int) (A : Option Addr) (c : Nat) (l : List Int) (s : Int) (w : World) (hC : Kd.C (Kd.int .i64) w A l.length l) (hc : l.length ≤ c) (hs : Inc l) (hb : l.length ≤ 1000000) :
    Calls Try.prog 11 #[.agg #[.int .i64 v, .slice A l.length c], .int .i64 s] w fun e w' => e = .returned (.bool (decide (s ∈ l))) ∧ Below w.heap.size w w' := by
  obtain ⟨k, hk⟩ := (hasW v l s hs hb).rounds
  exact revoke_Has.calls k v A c l s _ w hC hc hk
def dayF (t : Int) : Int := if 0 ≤ t ∧ t ≤ 20000000 then t / 86400 else -1
theorem day_c (t : Int) (w : World) : Calls Try.prog 39 #[.int .i64 t] w fun e w' => e = .returned (.int .i64 (dayF t)) ∧ Drawn0 w w' :=
  clock_Day.calls t _ w (by
    unfold clock_Day.f dayF
    by_cases h : 0 ≤ t ∧ t ≤ 20000000
    · obtain ⟨h1, h2, _⟩ := tm t h
      rw [h1, if_pos h]; simp only [Option.bind_some, if_true]; rw [h2]
    · rw [if_neg h]
      have : clock_isTime.f t = some false := by
        unfold clock_isTime.f
        by_cases h0 : t ≥ 0
        · rw [if_pos h0, decide_eq_false (by omega)]
        · rw [if_neg h0]
      rw [this]; rfl)
theorem sign_c (key : Int) (m : M9) (w : World) (h : media_Body.ok m.f0 m.f1 m.f2 m.f3 m.f4 m.f5 m.f6 m.f7) :
    Calls Try.prog 19 #[.int .u64 key, .agg #[.int .i64 m.f0, .int .i64 m.f1, .int .i64 m.f2, .int .i64 m.f3, .int .i64 m.f4, .int .i64 m.f5, .int .i64 m.f6, .int .i64 m.f7, .int .u64 m.f8]] w fun e w' => e = .returned (.agg #[.int .i64 m.f0, .int .i64 m.f1, .int .i64 m.f2, .int .i64 m.f3, .int .i64 m.f4, .int .i64 m.f5, .int .i64 m.f6, .int .i64 m.f7, .int .u64 (signT key m.f0 m.f1 m.f2 m.f3 m.f4 m.f5 m.f6 m.f7)]) ∧ Below w.heap.size w w' := by
  obtain ⟨k, hk⟩ := (sign key m.f0 m.f1 m.f2 m.f3 m.f4 m.f5 m.f6 m.f7 m.f8 h).rounds
  exact media_Sign.calls k key _ _ _ _ _ _ _ _ _ _ _ _ _ _ _ _ _ _ w hk
def chk (key : Int) (m : M9) : Bool := checkF key m.f0 m.f1 m.f2 m.f3 m.f4 m.f5 m.f6 m.f7 m.f8
theorem check_c (key : Int) (m : M9) (w : World) :
    Calls Try.prog 10 #[.int .u64 key, .agg #[.int .i64 m.f0, .int .i64 m.f1, .int .i64 m.f2, .int .i64 m.f3, .int .i64 m.f4, .int .i64 m.f5, .int .i64 m.f6, .int .i64 m.f7, .int .u64 m.f8]] w fun e w' => e = .returned (.bool (chk key m)) ∧ Below w.heap.size w w' := by
  obtain ⟨k, hk⟩ := (check key m.f0 m.f1 m.f2 m.f3 m.f4 m.f5 m.f6 m.f7 m.f8).rounds
  exact media_Check.calls k key _ _ _ _ _ _ _ _ _ _ w hk
def openP (p : S40) (t : Int) : Bool := decide (p.f6.length = 0) || inHours p.f6 t
theorem open_c (p : S40) (A : Option Addr) (c : Nat) (B : Option Addr) (d : Nat) (t : Int) (w : World) (h : PR w p A c B d) :
    Calls Try.prog 22 #[.agg #[.int .i64 p.f0, .int .i64 p.f1, .int .i64 p.f2, .int .i64 p.f3, .int .i64 p.f4, .slice A p.f5.length c, .slice B p.f6.length d, .int .i64 p.f7.f0, .int .i64 p.f7.f1, .int .i64 p.f8], .int .i64 t] w fun e w' => e = .returned (.bool (openP p t)) ∧ Below w.heap.size w w' := by
  have hu := Try.underlying40
  have H := Aside0.mk h
  have HB := Aside0.mk (below_alloc (Below.refl w.heap.size w) (.cells #[.int .i64 p.f0, .int .i64 p.f1, .int .i64 p.f2, .int .i64 p.f3, .int .i64 p.f4, .slice A p.f5.length c, .slice B p.f6.length d, .int .i64 p.f7.f0, .int .i64 p.f7.f1, .int .i64 p.f8] 40))
  clear h
  by_cases h0 : p.f6.length = 0
  · rw [show openP p t = true from by unfold openP; rw [decide_eq_true h0]; rfl]
    have h1 : ((p.f6.length : Nat) : Int) = 0 := by omega
    have H0 := Aside0.mk h0
    clear h0
    go_enter Try.func22, Try.ntmps22
    go_wp2
    go_ret
    exact ⟨rfl, HB.out⟩
  · rw [show openP p t = inHours p.f6 t from by unfold openP; rw [decide_eq_false h0]; rfl]
    have h1 : ¬ p.f6 = [] := fun h => h0 (by rw [h]; rfl)
    obtain ⟨b, hb⟩ : ∃ b, b = inHours p.f6 t := ⟨_, rfl⟩
    rw [← hb]
    have HI := Aside0.mk hb
    clear h0 hb
    go_enter Try.func22, Try.ntmps22
    go_wp2_with (go_at_call 38; refine (in_c B d p.f6 t _ (Kd.C_below H.out.C6 HB.out)).mono ?_; rintro e w1 ⟨rfl, hb⟩; rw [← HI.out]; have HB1 := Aside0.mk (HB.out.trans (hb.mono HB.out.size)); clear hb)
    go_ret
    refine ⟨?_, HB1.out⟩
    show Ending.returned (Value.bool (((p.f6.length : Nat) : Int) == 0 || b)) = _
    rw [show (((p.f6.length : Nat) : Int) == 0) = false from by simp [h1]]
    rfl
def used (p : S40) (m : M9) (t : Int) : Bool :=
  if p.f1 = 0 then (decide (m.f3 ≠ -1) && decide (t ≥ wrap64 (m.f3 + p.f2)))
  else if p.f1 = 1 then (decide (m.f4 = 0) && decide (dayF t ≠ m.f5))
  else decide (m.f4 = 0)
set_option maxHeartbeats 1000000 in
theorem used_c (p : S40) (A : Option Addr) (c : Nat) (B : Option Addr) (d : Nat) (m : M9) (t : Int) (w : World) :
    Calls Try.prog 23 #[.agg #[.int .i64 p.f0, .int .i64 p.f1, .int .i64 p.f2, .int .i64 p.f3, .int .i64 p.f4, .slice A p.f5.length c, .slice B p.f6.length d, .int .i64 p.f7.f0, .int .i64 p.f7.f1, .int .i64 p.f8], .agg #[.int .i64 m.f0, .int .i64 m.f1, .int .i64 m.f2, .int .i64 m.f3, .int .i64 m.f4, .int .i64 m.f5, .int .i64 m.f6, .int .i64 m.f7, .int .u64 m.f8], .int .i64 t] w fun e w' => e = .returned (.bool (used p m t)) ∧ Below w.heap.size w w' := by
  have hu := Try.underlying40
  have hu2 := Try.underlying30
  have hP := Aside0.mk ((At.new w #[.int .i64 p.f0, .int .i64 p.f1, .int .i64 p.f2, .int .i64 p.f3, .int .i64 p.f4, .slice A p.f5.length c, .slice B p.f6.length d, .int .i64 p.f7.f0, .int .i64 p.f7.f1, .int .i64 p.f8] 40 w.heap.size rfl).alloc (.cells #[.int .i64 m.f0, .int .i64 m.f1, .int .i64 m.f2, .int .i64 m.f3, .int .i64 m.f4, .int .i64 m.f5, .int .i64 m.f6, .int .i64 m.f7, .int .u64 m.f8] 30))
  have hM := Aside0.mk (At.new (w.alloc (.cells #[.int .i64 p.f0, .int .i64 p.f1, .int .i64 p.f2, .int .i64 p.f3, .int .i64 p.f4, .slice A p.f5.length c, .slice B p.f6.length d, .int .i64 p.f7.f0, .int .i64 p.f7.f1, .int .i64 p.f8] 40)) #[.int .i64 m.f0, .int .i64 m.f1, .int .i64 m.f2, .int .i64 m.f3, .int .i64 m.f4, .int .i64 m.f5, .int .i64 m.f6, .int .i64 m.f7, .int .u64 m.f8] 30 (w.heap.size + 1) (by simp))
  have HB := Aside0.mk (below_alloc (below_alloc (Below.refl w.heap.size w) (.cells #[.int .i64 p.f0, .int .i64 p.f1, .int .i64 p.f2, .int .i64 p.f3, .int .i64 p.f4, .slice A p.f5.length c, .slice B p.f6.length d, .int .i64 p.f7.f0, .int .i64 p.f7.f1, .int .i64 p.f8] 40)) (.cells #[.int .i64 m.f0, .int .i64 m.f1, .int .i64 m.f2, .int .i64 m.f3, .int .i64 m.f4, .int .i64 m.f5, .int .i64 m.f6, .int .i64 m.f7, .int .u64 m.f8] 30))
  obtain ⟨r, hr⟩ : ∃ r, r = used p m t := ⟨_, rfl⟩
  rw [← hr]
  have HR := Aside0.mk hr
  clear hr
  cases hq : (m.f4 == 0)
  all_goals
    go_enter Try.func23, Try.ntmps23
    go_wp2
    all_goals try (go_quiet ((go_at_call 39; (refine (day_c t _).mono ?_); rintro e w' ⟨rfl, ⟨nd, rfl⟩⟩; (try first | exact ⟨rfl, _, World.drewN_drewN _ _ _⟩ | exact ⟨rfl, _, Eq.trans (World.drewN_drewN _ _ _) (congrArg (World.drewN _) (Nat.add_assoc _ _ _))⟩))); try go_wp2)
    all_goals (go_ret; refine ⟨(congrArg (fun b => Ending.returned (Value.bool b)) ?_ : Ending.returned (Value.bool _) = Ending.returned (Value.bool r)), by first | exact below_alloc (below_alloc (Below.refl _ _) _) _ | exact (below_alloc (below_alloc (Below.refl _ _) _) _).trans ((Drawn0.below ⟨⟨_, rfl⟩⟩).mono (by simp; omega))⟩; rw [HR.out]; clear hu hu2 hP hM HB HR; unfold used; (try simp_all); (try rfl))
/-- Why a pass is not valid for a ride; 0: it is. -/
def why (p : S40) (m : M9) (op lift t : Int) : Int :=
  if t < p.f7.f0 ∨ t ≥ p.f7.f1 then 4 else if ¬ op ∈ p.f5 then 5 else if openP p t = false then 6 else if used p m t = true then 7
  else if t < m.f7 ∨ (lift = m.f6 ∧ t < wrap64 (m.f7 + 300)) then 8 else 0
set_option maxHeartbeats 4000000 in
theorem why_c (p : S40) (A : Option Addr) (c : Nat) (B : Option Addr) (d : Nat) (m : M9) (op lift t : Int) (w : World) (h : PR w p A c B d) :
    Calls Try.prog 12 #[.agg #[.int .i64 p.f0, .int .i64 p.f1, .int .i64 p.f2, .int .i64 p.f3, .int .i64 p.f4, .slice A p.f5.length c, .slice B p.f6.length d, .int .i64 p.f7.f0, .int .i64 p.f7.f1, .int .i64 p.f8], .agg #[.int .i64 m.f0, .int .i64 m.f1, .int .i64 m.f2, .int .i64 m.f3, .int .i64 m.f4, .int .i64 m.f5, .int .i64 m.f6, .int .i64 m.f7, .int .u64 m.f8], .int .i64 op, .int .i64 lift, .int .i64 t] w fun e w' => e = .returned (.int .i64 (why p m op lift t)) ∧ Below w.heap.size w w' := by
  have hu := Try.underlying40
  have hu2 := Try.underlying30
  have hP := Aside0.mk ((At.new w #[.int .i64 p.f0, .int .i64 p.f1, .int .i64 p.f2, .int .i64 p.f3, .int .i64 p.f4, .slice A p.f5.length c, .slice B p.f6.length d, .int .i64 p.f7.f0, .int .i64 p.f7.f1, .int .i64 p.f8] 40 w.heap.size rfl).alloc (.cells #[.int .i64 m.f0, .int .i64 m.f1, .int .i64 m.f2, .int .i64 m.f3, .int .i64 m.f4, .int .i64 m.f5, .int .i64 m.f6, .int .i64 m.f7, .int .u64 m.f8] 30))
  have hM := Aside0.mk (At.new (w.alloc (.cells #[.int .i64 p.f0, .int .i64 p.f1, .int .i64 p.f2, .int .i64 p.f3, .int .i64 p.f4, .slice A p.f5.length c, .slice B p.f6.length d, .int .i64 p.f7.f0, .int .i64 p.f7.f1, .int .i64 p.f8] 40)) #[.int .i64 m.f0, .int .i64 m.f1, .int .i64 m.f2, .int .i64 m.f3, .int .i64 m.f4, .int .i64 m.f5, .int .i64 m.f6, .int .i64 m.f7, .int .u64 m.f8] 30 (w.heap.size + 1) (by simp))
  have HB := Aside0.mk (below_alloc (below_alloc (Below.refl w.heap.size w) (.cells #[.int .i64 p.f0, .int .i64 p.f1, .int .i64 p.f2, .int .i64 p.f3, .int .i64 p.f4, .slice A p.f5.length c, .slice B p.f6.length d, .int .i64 p.f7.f0, .int .i64 p.f7.f1, .int .i64 p.f8] 40)) (.cells #[.int .i64 m.f0, .int .i64 m.f1, .int .i64 m.f2, .int .i64 m.f3, .int .i64 m.f4, .int .i64 m.f5, .int .i64 m.f6, .int .i64 m.f7, .int .u64 m.f8] 30))
  have HPR := Aside0.mk h
  obtain ⟨r, hr⟩ : ∃ r, r = why p m op lift t := ⟨_, rfl⟩
  rw [← hr]
  have HR := Aside0.mk hr
  clear hr h
  go_enter Try.func12, Try.ntmps12
  go_wp2_with (first
    | (go_at_call 21; refine (area_c p A c B d op _ (HPR.out.below HB.out)).mono ?_; rintro e w1 ⟨rfl, hb⟩; have hP := Aside0.mk (hP.out.below hb); have hM := Aside0.mk (hM.out.below hb); have HB := Aside0.mk (HB.out.trans (hb.mono HB.out.size)); clear hb; have zhP0 := hP.out 0 _ rfl; have zhP1 := hP.out 1 _ rfl; have zhP2 := hP.out 2 _ rfl; have zhP3 := hP.out 3 _ rfl; have zhP4 := hP.out 4 _ rfl; have zhP5 := hP.out 5 _ rfl; have zhP6 := hP.out 6 _ rfl; have zhP7 := hP.out 7 _ rfl; have zhP8 := hP.out 8 _ rfl; have zhP9 := hP.out 9 _ rfl; have zhM0 := hM.out 0 _ rfl; have zhM1 := hM.out 1 _ rfl; have zhM2 := hM.out 2 _ rfl; have zhM3 := hM.out 3 _ rfl; have zhM4 := hM.out 4 _ rfl; have zhM5 := hM.out 5 _ rfl; have zhM6 := hM.out 6 _ rfl; have zhM7 := hM.out 7 _ rfl; have zhM8 := hM.out 8 _ rfl)
    | (go_at_call 22; refine (open_c p A c B d t _ (HPR.out.below HB.out)).mono ?_; rintro e w1 ⟨rfl, hb⟩; have hP := Aside0.mk (hP.out.below hb); have hM := Aside0.mk (hM.out.below hb); have HB := Aside0.mk (HB.out.trans (hb.mono HB.out.size)); clear hb; have zhP0 := hP.out 0 _ rfl; have zhP1 := hP.out 1 _ rfl; have zhP2 := hP.out 2 _ rfl; have zhP3 := hP.out 3 _ rfl; have zhP4 := hP.out 4 _ rfl; have zhP5 := hP.out 5 _ rfl; have zhP6 := hP.out 6 _ rfl; have zhP7 := hP.out 7 _ rfl; have zhP8 := hP.out 8 _ rfl; have zhP9 := hP.out 9 _ rfl; have zhM0 := hM.out 0 _ rfl; have zhM1 := hM.out 1 _ rfl; have zhM2 := hM.out 2 _ rfl; have zhM3 := hM.out 3 _ rfl; have zhM4 := hM.out 4 _ rfl; have zhM5 := hM.out 5 _ rfl; have zhM6 := hM.out 6 _ rfl; have zhM7 := hM.out 7 _ rfl; have zhM8 := hM.out 8 _ rfl)
    | (go_at_call 23; refine (used_c p A c B d m t _).mono ?_; rintro e w1 ⟨rfl, hb⟩; have hP := Aside0.mk (hP.out.below hb); have hM := Aside0.mk (hM.out.below hb); have HB := Aside0.mk (HB.out.trans (hb.mono HB.out.size)); clear hb; have zhP0 := hP.out 0 _ rfl; have zhP1 := hP.out 1 _ rfl; have zhP2 := hP.out 2 _ rfl; have zhP3 := hP.out 3 _ rfl; have zhP4 := hP.out 4 _ rfl; have zhP5 := hP.out 5 _ rfl; have zhP6 := hP.out 6 _ rfl; have zhP7 := hP.out 7 _ rfl; have zhP8 := hP.out 8 _ rfl; have zhP9 := hP.out 9 _ rfl; have zhM0 := hM.out 0 _ rfl; have zhM1 := hM.out 1 _ rfl; have zhM2 := hM.out 2 _ rfl; have zhM3 := hM.out 3 _ rfl; have zhM4 := hM.out 4 _ rfl; have zhM5 := hM.out 5 _ rfl; have zhM6 := hM.out 6 _ rfl; have zhM7 := hM.out 7 _ rfl; have zhM8 := hM.out 8 _ rfl))
  all_goals first | (go_ret; refine ⟨(congrArg (fun x => Ending.returned (Value.int .i64 x)) ?_ : Ending.returned (Value.int .i64 _) = Ending.returned (Value.int .i64 r)), by first | exact HB.out | exact below_alloc (below_alloc (Below.refl _ _) _) _⟩; rw [HR.out]; clear hu hu2 hP hM HB HR HPR; unfold why; (try simp_all); (try omega))
end Go.Proofs.Ytbfflokkdahjjaa.PV
