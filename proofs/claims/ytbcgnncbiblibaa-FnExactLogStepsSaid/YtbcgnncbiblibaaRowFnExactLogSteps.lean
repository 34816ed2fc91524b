/- The law FnExactLogSteps answers true: the program's LogSteps returns what the reference's returns, in memory of its own, and leaves its arguments as they were. For every input that can be read as data; no further condition. -/
import Derived.Test.YtbcgnncbiblibaaRows
import Derived.Test.YtbcgnncbiblibaaPFnExactLogStepsx25
import Derived.Test.YtbcgnncbiblibaaPureFnExactLogSteps
import Derived.Test.YtbcgnncbiblibaaVFnExactLogStepsArgs
import Derived.WalkKit
import Derived.ProofKit
import Derived.OpenShut
import Derived.ShutString
import Derived.ChangeOld
import Derived.Below
import Derived.SizedLaws
namespace Go.Proofs.Ytbcgnncbiblibaa.fnExactLogSteps
open Go.ChangeShapes Go.WideShapes Go.ChangeAt Go.RowKit
open Go.Proofs.Ytbcgnncbiblibaa.PFnExactLogSteps Go.Proofs.YtbcgnncbiblibaaW.PrintWords Go.Proofs.Ytbcgnncbiblibaa.Args
set_option linter.unusedVariables false
theorem own : ownKnob Try.prog.godebug = none := by kernel_rfl
theorem laidOut : laidOutB Try.prog = true := by kernel_rfl
theorem o9 : Opens Try.prog 9 (Kd.string) (fun s => s.size ≤ 140737488351232) :=
  opens_string Try.underlying9
theorem o3 : Opens Try.prog 3 (Kd.int .i64) (fun n => (Lit.int .i64 n).wf = true) :=
  opens_int Try.underlying3
theorem o150 : Opens Try.prog 150 (Kd.pair (Kd.int .i64) (Kd.pair (Kd.int .i64) (Kd.string))) (fun x => (fun n => (Lit.int .i64 n).wf = true) x.1 ∧ (fun x => (fun n => (Lit.int .i64 n).wf = true) x.1 ∧ (fun s => s.size ≤ 140737488351232) x.2) x.2) :=
  opens_struct Try.underlying150 (by kernel_rfl) (opensFs_cons rfl (by kernel_rfl) o3 (opensFs_cons rfl (by kernel_rfl) o3 (opensFs_one rfl (by kernel_rfl) o9)))
theorem o150e : Opens Try.prog 150 (k150) (fun b : S150 => (fun x => (fun n => (Lit.int .i64 n).wf = true) x.1 ∧ (fun x => (fun n => (Lit.int .i64 n).wf = true) x.1 ∧ (fun s => s.size ≤ 140737488351232) x.2) x.2) ((b.f0, b.f1, b.f2))) :=
  opens_iso (fun x : S150 => (x.f0, x.f1, x.f2)) (fun a => ⟨a.1, a.2.1, a.2.2⟩) (fun _ => rfl) o150
theorem o53 : Opens Try.prog 53 (Kd.slice 150 (k150)) (fun l => l.length * 32 ≤ 140737488351232 ∧ ∀ x ∈ l, (fun b : S150 => (fun x => (fun n => (Lit.int .i64 n).wf = true) x.1 ∧ (fun x => (fun n => (Lit.int .i64 n).wf = true) x.1 ∧ (fun s => s.size ≤ 140737488351232) x.2) x.2) ((b.f0, b.f1, b.f2))) x) :=
  opens_slice Try.underlying53 (by kernel_rfl) (by kernel_rfl) o150e
theorem o55 : Opens Try.prog 55 (Kd.pair (Kd.int .i64) (Kd.pair (Kd.int .i64) (Kd.slice 150 (k150)))) (fun x => (fun n => (Lit.int .i64 n).wf = true) x.1 ∧ (fun x => (fun n => (Lit.int .i64 n).wf = true) x.1 ∧ (fun l => l.length * 32 ≤ 140737488351232 ∧ ∀ x ∈ l, (fun b : S150 => (fun x => (fun n => (Lit.int .i64 n).wf = true) x.1 ∧ (fun x => (fun n => (Lit.int .i64 n).wf = true) x.1 ∧ (fun s => s.size ≤ 140737488351232) x.2) x.2) ((b.f0, b.f1, b.f2))) x) x.2) x.2) :=
  opens_struct Try.underlying55 (by kernel_rfl) (opensFs_cons rfl (by kernel_rfl) o3 (opensFs_cons rfl (by kernel_rfl) o3 (opensFs_one rfl (by kernel_rfl) o53)))
set_option maxRecDepth 100000 in
theorem lifted (os : Os) (started : os.Started) (H : Type) (enc : TypeId × Value → H) :
    ReturnsInHanded {} Try.checked os 7 .any (Rows.fnExactLogStepsSpec.pre6 enc Try.prog Try.f7 Rows.fnExactLogStepsRow.domain false) (Rows.fnExactLogStepsSpec.post enc Try.prog Try.f7 false true false false) := by
  refine returnsInHanded_of_change_sized (C := Try.checked) own started (by kernel_rfl) Try.func7
    (ChangeSpec.witness6 (enc := enc) (C := Try.checked) false ⟨#[], #[.string ⟨#[]⟩, .agg #[.int .i64 0, .int .i64 0, .slice none 0 0], .agg #[.int .i64 0, .int .i64 0, .slice none 0 0]], []⟩ 8 (by kernel_rfl) (by kernel_rfl) (by kernel_rfl) (by kernel_rfl)) ?_
  intro W base args ds gs before hval0 hW hcnd hsz0 _
  have hsz : (DataW.weightsEach Try.prog (Try.f7.params.toList ++ Rows.fnExactLogStepsSpec.plain.varTypes Try.prog) (ds ++ gs)).all (· ≤ reachBytes) = true := hsz0
  have hval : ∀ (j : Nat) t v, Try.f7.params[j]? = some t → args[j]? = some v → Value.okWide Try.prog W .any base t v := hval0
  have hW' := hW
  obtain ⟨p, q, hA0, hV, rfl, hfz, hnd⟩ := hW
  have hA : DataW.TrodAll enc Try.prog W 0 (fun _ => true) true Try.f7.params.toList args.toList ds p := hA0
  rw [Try.params7] at hA hval hsz
  obtain ⟨v0, vs0, d0, ds0, p0, q0, hargs, rfl, rfl, h0, r0⟩ := trodAll_cons hA
  obtain ⟨v1, vs1, d1, ds1, p1, q1, rfl, rfl, rfl, h1, r1⟩ := trodAll_cons r0
  obtain ⟨v2, vs2, d2, ds2, p2, q2, rfl, rfl, rfl, h2, r2⟩ := trodAll_cons r1
  obtain ⟨rfl, rfl, rfl⟩ := trodAll_nil r2
  obtain rfl : args = #[v0, v1, v2] := by cases args; simp_all
  obtain ⟨rfl, rfl⟩ := trodVars_none hV
  have k0 := h0
  have lt0 : ∀ x ∈ p0, x.block < W.heap.size := by obtain ⟨m, hm⟩ := k0; exact DataW.trod_lt m _ _ _ hm
  have wt0 : ∀ n ∈ DataW.weights Try.prog 9 d0, n ≤ reachBytes := fun n hn => of_decide_eq_true (List.all_eq_true.1 hsz n (DataW.weights_mem_each (j := 0) rfl rfl n hn))
  obtain ⟨a0_0, rfl⟩ := okWide_string Try.underlying9 (hval 0 9 v0 rfl rfl)
  obtain ⟨fu0, hf0⟩ := h0
  obtain ⟨b0, e0, Q0⟩ := o9 enc W fu0 _ _ hf0 wt0
  obtain rfl : a0_0 = b0 := by have e := e0; simp only [Kd.string, Kd.scalar, Value.cells, List.cons.injEq, Value.string.injEq, and_true] at e; exact e
  have k1 := h1
  have lt1 : ∀ x ∈ p1, x.block < W.heap.size := by obtain ⟨m, hm⟩ := k1; exact DataW.trod_lt m _ _ _ hm
  have wt1 : ∀ n ∈ DataW.weights Try.prog 55 d1, n ≤ reachBytes := fun n hn => of_decide_eq_true (List.all_eq_true.1 hsz n (DataW.weights_mem_each (j := 1) rfl rfl n hn))
  obtain ⟨C1, rfl, _⟩ := okWide_struct Try.underlying55 (hval 1 55 v1 rfl rfl)
  obtain ⟨fu1, hf1⟩ := h1
  obtain ⟨⟨a1_0, a1_1, l1_2⟩, K1, Q1⟩ := o55 enc W fu1 _ _ hf1 wt1
  obtain ⟨_, _, e1, rfl, ⟨_, _, rfl, rfl, ⟨A1_2, c1_2, rfl, hc1_2, hr1_2⟩⟩⟩ := K1
  have E1 : C1 = #[.int .i64 a1_0, .int .i64 a1_1, .slice A1_2 l1_2.length c1_2] := agg_of e1
  subst E1
  have k2 := h2
  have lt2 : ∀ x ∈ p2, x.block < W.heap.size := by obtain ⟨m, hm⟩ := k2; exact DataW.trod_lt m _ _ _ hm
  have wt2 : ∀ n ∈ DataW.weights Try.prog 55 d2, n ≤ reachBytes := fun n hn => of_decide_eq_true (List.all_eq_true.1 hsz n (DataW.weights_mem_each (j := 2) rfl rfl n hn))
  obtain ⟨C2, rfl, _⟩ := okWide_struct Try.underlying55 (hval 2 55 v2 rfl rfl)
  obtain ⟨fu2, hf2⟩ := h2
  obtain ⟨⟨a2_0, a2_1, l2_2⟩, K2, Q2⟩ := o55 enc W fu2 _ _ hf2 wt2
  obtain ⟨_, _, e2, rfl, ⟨_, _, rfl, rfl, ⟨A2_2, c2_2, rfl, hc2_2, hr2_2⟩⟩⟩ := K2
  have E2 : C2 = #[.int .i64 a2_0, .int .i64 a2_1, .slice A2_2 l2_2.length c2_2] := agg_of e2
  subst E2
  clear hA0 hval0 hsz0 hsz
  obtain ⟨k, H⟩ := Pure.FnExactLogSteps_q a0_0 a1_0 a1_1 l1_2 a2_0 a2_1 l2_2 Q0 Q1 Q2
  refine (laws_FnExactLogSteps.calls k a0_0 a1_0 a1_1 A1_2 c1_2 l1_2 a2_0 a2_1 A2_2 c2_2 l2_2 true W hr1_2 hc1_2 hr2_2 hc2_2 H).mono fun e W' ⟨he, bel⟩ => ?_
  subst he
  exact ⟨_, rfl, _, _, _, [], _, [], hW', trodAll_mk1 (shut_bool Try.underlying4 _), (trodAll_cons_mk (Below.trod laidOut (by kernel_rfl) (of_decide_eq_true (by kernel_rfl)) k0 bel lt0) (trodAll_cons_mk (Below.trod laidOut (by kernel_rfl) (of_decide_eq_true (by kernel_rfl)) k1 bel lt1) (trodAll_cons_mk (Below.trod laidOut (by kernel_rfl) (of_decide_eq_true (by kernel_rfl)) k2 bel lt2) trodAll_mk0))), rfl, bel.frame _, fun h => by cases h⟩
theorem over : Rows.fnExactLogStepsRow.holds Try.pinned (OpenSpec.ofChange Rows.fnExactLogStepsSpec) :=
  OpenClaim.holds_of_wide 7 Try.f7 rfl rfl rfl rfl rfl rfl rfl ⟨rfl, rfl, rfl, rfl, rfl⟩ rfl rfl rfl rfl rfl (by kernel_rfl) Try.func7 (by kernel_rfl)
    (of_decide_eq_true (by kernel_rfl)) (by unfold Func.isWrapper; first | (rw [if_pos (by decide +kernel)]; kernel_rfl) | (rw [if_neg (by decide +kernel)]; exact ⟨rfl, rfl⟩))
    (fun os started H enc _ => lifted os started H enc)
theorem proved : Rows.FnExactLogStepsSaid := over
end Go.Proofs.Ytbcgnncbiblibaa.fnExactLogSteps
namespace Go.Proofs.Ytbcgnncbiblibaa
theorem fnExactLogSteps_holds : Rows.FnExactLogStepsSaid := fnExactLogSteps.proved
end Go.Proofs.Ytbcgnncbiblibaa
