/- Whatever the input, the law TopGate answers true, and each argument reads behind the call as it read before. No condition. -/
import Derived.Test.YtbfflokkdahjjaaRows
import Derived.Test.YtbfflokkdahjjaaPTopx0
import Derived.Test.YtbfflokkdahjjaaPTopx0
import Derived.Test.YtbfflokkdahjjaaGRead
import Derived.WalkKit
import Derived.ProofKit
import Derived.OpenShut
import Derived.ShutString
import Derived.ChangeOld
import Derived.Below
import Derived.SizedLaws
namespace Go.Proofs.Ytbfflokkdahjjaa.topGate
set_option linter.unusedSimpArgs false
open Go.ChangeShapes Go.WideShapes Go.ChangeAt Go.RowKit Go.Proofs.Ytbfflokkdahjjaa.PTop Go.Proofs.Ytbfflokkdahjjaa.PAll Go.Proofs.Ytbfflokkdahjjaa.Help Go.Proofs.YtbfflokkdahjjaaW.PrintWords Go.Proofs.YtbfflokkdahjjaaW.PrintMore
set_option linter.unusedVariables false
theorem own : ownKnob Try.prog.godebug = none := by kernel_rfl
theorem laidOut : laidOutB Try.prog = true := by kernel_rfl
structure S30 where
  f0 : Int
  f1 : Int
  f2 : Int
  f3 : Int
  f4 : Int
  f5 : Int
  f6 : Int
  f7 : Int
  f8 : Int
def k30 : Kd S30 := Kd.iso (Kd.pair (Kd.int .i64) (Kd.pair (Kd.int .i64) (Kd.pair (Kd.int .i64) (Kd.pair (Kd.int .i64) (Kd.pair (Kd.int .i64) (Kd.pair (Kd.int .i64) (Kd.pair (Kd.int .i64) (Kd.pair (Kd.int .i64) (Kd.int .u64))))))))) (fun x : S30 => (x.f0, x.f1, x.f2, x.f3, x.f4, x.f5, x.f6, x.f7, x.f8))
theorem k30_open {w : World} {x : S30} {cs : List Value} (h : k30.K w x cs) : cs = [.int .i64 x.f0, .int .i64 x.f1, .int .i64 x.f2, .int .i64 x.f3, .int .i64 x.f4, .int .i64 x.f5, .int .i64 x.f6, .int .i64 x.f7, .int .u64 x.f8] := by
  obtain ⟨_, _, rfl, rfl, ⟨_, _, rfl, rfl, ⟨_, _, rfl, rfl, ⟨_, _, rfl, rfl, ⟨_, _, rfl, rfl, ⟨_, _, rfl, rfl, ⟨_, _, rfl, rfl, ⟨_, _, rfl, rfl, rfl⟩⟩⟩⟩⟩⟩⟩⟩ := h
  rfl
structure S25 where
  f0 : Int
  f1 : List Int
def k25 : Kd S25 := Kd.iso (Kd.pair (Kd.int .i64) (Kd.slice 3 (Kd.int .i64))) (fun x : S25 => (x.f0, x.f1))
theorem k25_open {w : World} {x : S25} {cs : List Value} (h : k25.K w x cs) : ∃ A1 c1, cs = [.int .i64 x.f0, .slice A1 x.f1.length c1] ∧ x.f1.length ≤ c1 ∧ (Kd.int .i64).C w A1 x.f1.length x.f1 := by
  obtain ⟨_, _, rfl, rfl, ⟨A1, c1, rfl, l1, g1⟩⟩ := h
  exact ⟨A1, c1, rfl, l1, g1⟩
structure S27 where
  f0 : Int
  f1 : Int
  f2 : Int
  f3 : Int
  f4 : Int
  f5 : S25
  f6 : Int
def k27 : Kd S27 := Kd.iso (Kd.pair (Kd.int .i64) (Kd.pair (Kd.int .i64) (Kd.pair (Kd.int .i64) (Kd.pair (Kd.int .i64) (Kd.pair (Kd.int .u64) (Kd.pair (k25) (Kd.int .i64))))))) (fun x : S27 => (x.f0, x.f1, x.f2, x.f3, x.f4, x.f5, x.f6))
theorem k27_open {w : World} {x : S27} {cs : List Value} (h : k27.K w x cs) : ∃ A6 c6, cs = [.int .i64 x.f0, .int .i64 x.f1, .int .i64 x.f2, .int .i64 x.f3, .int .u64 x.f4, .int .i64 x.f5.f0, .slice A6 x.f5.f1.length c6, .int .i64 x.f6] ∧ x.f5.f1.length ≤ c6 ∧ (Kd.int .i64).C w A6 x.f5.f1.length x.f5.f1 := by
  obtain ⟨_, _, rfl, rfl, ⟨_, _, rfl, rfl, ⟨_, _, rfl, rfl, ⟨_, _, rfl, rfl, ⟨_, _, rfl, rfl, ⟨_, _, rfl, s5, rfl⟩⟩⟩⟩⟩⟩ := h
  obtain ⟨A6, c6, rfl, l6, g6⟩ := k25_open s5
  exact ⟨A6, c6, rfl, l6, g6⟩
def wf25 (b : S25) : Prop := (fun x => (Lit.int .i64 x).wf = true) b.f0 ∧ (fun xs => ∀ x ∈ xs, (fun x => (Lit.int .i64 x).wf = true) x) b.f1
theorem rd25 : Reader Try.prog 25 k25 wf25 :=
  Reader.struct Try.underlying25 [(3, 0), (23, 1)] (by kernel_rfl) rfl (FReader.cons (Reader.int Try.underlying3 rfl) (FReader.last (Reader.slice Try.underlying23 rfl (Reader.int Try.underlying3 rfl)))) (fun x : S25 => (x.f0, x.f1)) (fun x => ⟨x.1, x.2⟩) (fun _ => rfl)
def wf27 (b : S27) : Prop := (fun x => (Lit.int .i64 x).wf = true) b.f0 ∧ (fun x => (Lit.int .i64 x).wf = true) b.f1 ∧ (fun x => (Lit.int .i64 x).wf = true) b.f2 ∧ (fun x => (Lit.int .i64 x).wf = true) b.f3 ∧ (fun x => (Lit.int .u64 x).wf = true) b.f4 ∧ wf25 b.f5 ∧ (fun x => (Lit.int .i64 x).wf = true) b.f6
theorem rd27 : Reader Try.prog 27 k27 wf27 :=
  Reader.struct Try.underlying27 [(3, 0), (3, 1), (3, 2), (3, 3), (22, 4), (25, 5), (3, 7)] (by kernel_rfl) rfl (FReader.cons (Reader.int Try.underlying3 rfl) (FReader.cons (Reader.int Try.underlying3 rfl) (FReader.cons (Reader.int Try.underlying3 rfl) (FReader.cons (Reader.int Try.underlying3 rfl) (FReader.cons (Reader.int Try.underlying22 rfl) (FReader.cons rd25 (FReader.last (Reader.int Try.underlying3 rfl)))))))) (fun x : S27 => (x.f0, x.f1, x.f2, x.f3, x.f4, x.f5, x.f6)) (fun x => ⟨x.1, x.2.1, x.2.2.1, x.2.2.2.1, x.2.2.2.2.1, x.2.2.2.2.2.1, x.2.2.2.2.2.2⟩) (fun _ => rfl)
def wf73 (b : S73) : Prop := (fun x => (Lit.int .i64 x).wf = true) b.f0 ∧ (fun x => (Lit.int .i64 x).wf = true) b.f1 ∧ (fun x => (Lit.int .i64 x).wf = true) b.f2
theorem rd73 : Reader Try.prog 73 k73 wf73 :=
  Reader.struct Try.underlying73 [(3, 0), (3, 1), (3, 2)] (by kernel_rfl) rfl (FReader.cons (Reader.int Try.underlying3 rfl) (FReader.cons (Reader.int Try.underlying3 rfl) (FReader.last (Reader.int Try.underlying3 rfl)))) (fun x : S73 => (x.f0, x.f1, x.f2)) (fun x => ⟨x.1, x.2.1, x.2.2⟩) (fun _ => rfl)
def wf38 (b : S38) : Prop := (fun x => (Lit.int .i64 x).wf = true) b.f0 ∧ (fun x => (Lit.int .i64 x).wf = true) b.f1
theorem rd38 : Reader Try.prog 38 k38 wf38 :=
  Reader.struct Try.underlying38 [(3, 0), (3, 1)] (by kernel_rfl) rfl (FReader.cons (Reader.int Try.underlying3 rfl) (FReader.last (Reader.int Try.underlying3 rfl))) (fun x : S38 => (x.f0, x.f1)) (fun x => ⟨x.1, x.2⟩) (fun _ => rfl)
def wf40 (b : S40) : Prop := (fun x => (Lit.int .i64 x).wf = true) b.f0 ∧ (fun x => (Lit.int .i64 x).wf = true) b.f1 ∧ (fun x => (Lit.int .i64 x).wf = true) b.f2 ∧ (fun x => (Lit.int .i64 x).wf = true) b.f3 ∧ (fun x => (Lit.int .i64 x).wf = true) b.f4 ∧ (fun xs => ∀ x ∈ xs, (fun x => (Lit.int .i64 x).wf = true) x) b.f5 ∧ (fun xs => ∀ x ∈ xs, wf73 x) b.f6 ∧ wf38 b.f7 ∧ (fun x => (Lit.int .i64 x).wf = true) b.f8
theorem rd40 : Reader Try.prog 40 k40 wf40 :=
  Reader.struct Try.underlying40 [(3, 0), (3, 1), (3, 2), (3, 3), (3, 4), (23, 5), (36, 6), (38, 7), (3, 9)] (by kernel_rfl) rfl (FReader.cons (Reader.int Try.underlying3 rfl) (FReader.cons (Reader.int Try.underlying3 rfl) (FReader.cons (Reader.int Try.underlying3 rfl) (FReader.cons (Reader.int Try.underlying3 rfl) (FReader.cons (Reader.int Try.underlying3 rfl) (FReader.cons (Reader.slice Try.underlying23 rfl (Reader.int Try.underlying3 rfl)) (FReader.cons (Reader.slice Try.underlying36 rfl rd73) (FReader.cons rd38 (FReader.last (Reader.int Try.underlying3 rfl)))))))))) (fun x : S40 => (x.f0, x.f1, x.f2, x.f3, x.f4, x.f5, x.f6, x.f7, x.f8)) (fun x => ⟨x.1, x.2.1, x.2.2.1, x.2.2.2.1, x.2.2.2.2.1, x.2.2.2.2.2.1, x.2.2.2.2.2.2.1, x.2.2.2.2.2.2.2.1, x.2.2.2.2.2.2.2.2⟩) (fun _ => rfl)
def wf30 (b : S30) : Prop := (fun x => (Lit.int .i64 x).wf = true) b.f0 ∧ (fun x => (Lit.int .i64 x).wf = true) b.f1 ∧ (fun x => (Lit.int .i64 x).wf = true) b.f2 ∧ (fun x => (Lit.int .i64 x).wf = true) b.f3 ∧ (fun x => (Lit.int .i64 x).wf = true) b.f4 ∧ (fun x => (Lit.int .i64 x).wf = true) b.f5 ∧ (fun x => (Lit.int .i64 x).wf = true) b.f6 ∧ (fun x => (Lit.int .i64 x).wf = true) b.f7 ∧ (fun x => (Lit.int .u64 x).wf = true) b.f8
theorem rd30 : Reader Try.prog 30 k30 wf30 :=
  Reader.struct Try.underlying30 [(3, 0), (3, 1), (3, 2), (3, 3), (3, 4), (3, 5), (3, 6), (3, 7), (22, 8)] (by kernel_rfl) rfl (FReader.cons (Reader.int Try.underlying3 rfl) (FReader.cons (Reader.int Try.underlying3 rfl) (FReader.cons (Reader.int Try.underlying3 rfl) (FReader.cons (Reader.int Try.underlying3 rfl) (FReader.cons (Reader.int Try.underlying3 rfl) (FReader.cons (Reader.int Try.underlying3 rfl) (FReader.cons (Reader.int Try.underlying3 rfl) (FReader.cons (Reader.int Try.underlying3 rfl) (FReader.last (Reader.int Try.underlying22 rfl)))))))))) (fun x : S30 => (x.f0, x.f1, x.f2, x.f3, x.f4, x.f5, x.f6, x.f7, x.f8)) (fun x => ⟨x.1, x.2.1, x.2.2.1, x.2.2.2.1, x.2.2.2.2.1, x.2.2.2.2.2.1, x.2.2.2.2.2.2.1, x.2.2.2.2.2.2.2.1, x.2.2.2.2.2.2.2.2⟩) (fun _ => rfl)
set_option maxRecDepth 100000 in
theorem lifted (os : Os) (started : os.Started) (H : Type) (enc : TypeId × Value → H) :
    ReturnsInHanded {} Try.checked os 3 .any (Rows.topGateSpec.pre6 enc Try.prog Try.f3 Rows.topGateRow.domain false) (Rows.topGateSpec.post enc Try.prog Try.f3 false true false false) := by
  refine returnsInHanded_of_change_sized (C := Try.checked) own started (by kernel_rfl) Try.func3
    (ChangeSpec.witness6 (enc := enc) (C := Try.checked) false ⟨#[], #[.agg #[.int .i64 0, .int .i64 0, .int .i64 0, .int .i64 0, .int .u64 0, .int .i64 0, .slice none 0 0, .int .i64 0], .slice none 0 0, .agg #[.int .i64 0, .int .i64 0, .int .i64 0, .int .i64 0, .int .i64 0, .int .i64 0, .int .i64 0, .int .i64 0, .int .u64 0], .int .i64 0], []⟩ 8 (by kernel_rfl) (by kernel_rfl) (by kernel_rfl) (by kernel_rfl)) ?_
  intro W base args ds gs before hval0 hW hcnd _ _
  have hval : ∀ (j : Nat) t v, Try.f3.params[j]? = some t → args[j]? = some v → Value.okWide Try.prog W .any base t v := hval0
  have hW' := hW
  obtain ⟨p, q, hA0, hV, rfl, hfz, hnd⟩ := hW
  have hA : DataW.TrodAll enc Try.prog W 0 (fun _ => true) true Try.f3.params.toList args.toList ds p := hA0
  rw [Try.params3] at hA hval
  obtain ⟨v0, vs0, d0, ds0, p0, q0, hargs, rfl, rfl, h0, r0⟩ := trodAll_cons hA
  obtain ⟨v1, vs1, d1, ds1, p1, q1, rfl, rfl, rfl, h1, r1⟩ := trodAll_cons r0
  obtain ⟨v2, vs2, d2, ds2, p2, q2, rfl, rfl, rfl, h2, r2⟩ := trodAll_cons r1
  obtain ⟨v3, vs3, d3, ds3, p3, q3, rfl, rfl, rfl, h3, r3⟩ := trodAll_cons r2
  obtain ⟨rfl, rfl, rfl⟩ := trodAll_nil r3
  obtain rfl : args = #[v0, v1, v2, v3] := by cases args; simp_all
  obtain ⟨rfl, rfl⟩ := trodVars_none hV
  obtain ⟨cs0, rfl, _⟩ := okWide_struct Try.underlying27 (hval 0 27 v0 rfl rfl)
  have kp0 := h0
  have lt0 : ∀ x ∈ p0, x.block < W.heap.size := by obtain ⟨m, hm⟩ := kp0; exact DataW.trod_lt m _ _ _ hm
  obtain ⟨x0, kx0, wf0⟩ := Reader.agg rd27 h0
  obtain ⟨A0_6, c0_6, ecs0, hc0_6, hr0_6⟩ := k27_open kx0
  obtain rfl := (Array.toList_inj.1 (show cs0.toList = (List.toArray _).toList from ecs0.trans (by rw [List.toList_toArray])))
  obtain ⟨A1, n1, c1, rfl⟩ := okWide_slice Try.underlying28 (hval 1 28 v1 rfl rfl)
  have kp1 := h1
  have lt1 : ∀ x ∈ p1, x.block < W.heap.size := by obtain ⟨m, hm⟩ := kp1; exact DataW.trod_lt m _ _ _ hm
  obtain ⟨l1, rfl, hc1, hr1, wf1⟩ := Reader.row (Reader.slice Try.underlying28 rfl rd40) h1
  obtain ⟨cs2, rfl, _⟩ := okWide_struct Try.underlying30 (hval 2 30 v2 rfl rfl)
  have kp2 := h2
  have lt2 : ∀ x ∈ p2, x.block < W.heap.size := by obtain ⟨m, hm⟩ := kp2; exact DataW.trod_lt m _ _ _ hm
  obtain ⟨x2, kx2, wf2⟩ := Reader.agg rd30 h2
  have ecs2 := k30_open kx2
  obtain rfl := (Array.toList_inj.1 (show cs2.toList = (List.toArray _).toList from ecs2.trans (by rw [List.toList_toArray])))
  obtain ⟨a3, rfl, rfl, rfl, w3⟩ := open_int Try.underlying3 (hval 3 3 v3 rfl rfl) h3
  clear hA0 hval0
  have hk := Pure.TopGate x0.f0 x0.f1 x0.f2 x0.f3 x0.f4 x0.f5.f0 x0.f5.f1 x0.f6 l1 x2.f0 x2.f1 x2.f2 x2.f3 x2.f4 x2.f5 x2.f6 x2.f7 x2.f8 a3
  refine (skiareatop_TopGate.calls x0.f0 x0.f1 x0.f2 x0.f3 x0.f4 x0.f5.f0 A0_6 c0_6 x0.f5.f1 x0.f6 A1 c1 l1 x2.f0 x2.f1 x2.f2 x2.f3 x2.f4 x2.f5 x2.f6 x2.f7 x2.f8 a3 true W hr0_6 hc0_6 hr1 hc1 hk).mono fun e W' he => ?_
  obtain ⟨rfl, hd⟩ := he
  have bel : Below W.heap.size W W' := by first | exact hd | exact hd.below
  exact ⟨_, rfl, _, _, _, [], _, [], hW', trodAll_mk1 (shut_bool Try.underlying4 _), (trodAll_cons_mk (Below.trod laidOut (by kernel_rfl) (of_decide_eq_true (by kernel_rfl)) kp0 bel lt0) (trodAll_cons_mk (Below.trod laidOut (by kernel_rfl) (of_decide_eq_true (by kernel_rfl)) kp1 bel lt1) (trodAll_cons_mk (Below.trod laidOut (by kernel_rfl) (of_decide_eq_true (by kernel_rfl)) kp2 bel lt2) (trodAll_cons_mk (shut_int Try.underlying3 w3) trodAll_mk0)))), rfl, bel.frame _, fun h => by cases h⟩
theorem over : Rows.topGateRow.holds Try.pinned (OpenSpec.ofChange Rows.topGateSpec) :=
  OpenClaim.holds_of_wide 3 Try.f3 rfl rfl rfl rfl rfl rfl rfl ⟨rfl, rfl, rfl, rfl, rfl⟩ rfl rfl rfl rfl rfl (by kernel_rfl) Try.func3 (by kernel_rfl)
    (of_decide_eq_true (by kernel_rfl)) (by unfold Func.isWrapper; first | (rw [if_pos (by decide +kernel)]; kernel_rfl) | (rw [if_neg (by decide +kernel)]; exact ⟨rfl, rfl⟩))
    (fun os started H enc _ => lifted os started H enc)
theorem proved : Rows.TopGateSaid := over
#print axioms proved
end Go.Proofs.Ytbfflokkdahjjaa.topGate
namespace Go.Proofs.Ytbfflokkdahjjaa
/-- The row, under a short name, for the claim. -/
theorem topGate_holds : Rows.TopGateSaid := topGate.proved
end Go.Proofs.Ytbfflokkdahjjaa
