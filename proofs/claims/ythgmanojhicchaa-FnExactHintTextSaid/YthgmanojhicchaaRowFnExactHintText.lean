/- The law FnExactHintText answers true: the program's HintText returns what the reference's returns, and leaves its argument as it was. For every input that can be read as data; no further condition. -/
import Derived.Test.YthgmanojhicchaaRows
import Derived.Test.YthgmanojhicchaaPFnExactHintTextx7
import Derived.Test.YthgmanojhicchaaPureFnExactHintText
import Derived.Test.YthgmanojhicchaaVFnExactHintTextArgs
import Derived.WalkKit
import Derived.ProofKit
import Derived.OpenShut
import Derived.ShutString
import Derived.ChangeOld
import Derived.Below
import Derived.SizedLaws
namespace Go.Proofs.Ythgmanojhicchaa.fnExactHintText
open Go.ChangeShapes Go.WideShapes Go.ChangeAt Go.RowKit
open Go.Proofs.Ythgmanojhicchaa.PFnExactHintText Go.Proofs.YthgmanojhicchaaW.PrintWords Go.Proofs.Ythgmanojhicchaa.Args
set_option linter.unusedVariables false
theorem own : ownKnob Try.prog.godebug = none := by kernel_rfl
theorem laidOut : laidOutB Try.prog = true := by kernel_rfl
theorem o9 : Opens Try.prog 9 (Kd.string) (fun s => s.size ≤ 140737488351232) :=
  opens_string Try.underlying9
theorem o3 : Opens Try.prog 3 (Kd.int .i64) (fun n => (Lit.int .i64 n).wf = true) :=
  opens_int Try.underlying3
theorem o87 : Opens Try.prog 87 (Kd.pair (Kd.string) (Kd.pair (Kd.int .i64) (Kd.pair (Kd.int .i64) (Kd.int .i64)))) (fun x => (fun s => s.size ≤ 140737488351232) x.1 ∧ (fun x => (fun n => (Lit.int .i64 n).wf = true) x.1 ∧ (fun x => (fun n => (Lit.int .i64 n).wf = true) x.1 ∧ (fun n => (Lit.int .i64 n).wf = true) x.2) x.2) x.2) :=
  opens_struct Try.underlying87 (by kernel_rfl) (opensFs_cons rfl (by kernel_rfl) o9 (opensFs_cons rfl (by kernel_rfl) o3 (opensFs_cons rfl (by kernel_rfl) o3 (opensFs_one rfl (by kernel_rfl) o3))))
theorem o87e : Opens Try.prog 87 (k87) (fun b : S87 => (fun x => (fun s => s.size ≤ 140737488351232) x.1 ∧ (fun x => (fun n => (Lit.int .i64 n).wf = true) x.1 ∧ (fun x => (fun n => (Lit.int .i64 n).wf = true) x.1 ∧ (fun n => (Lit.int .i64 n).wf = true) x.2) x.2) x.2) ((b.f0, b.f1, b.f2, b.f3))) :=
  opens_iso (fun x : S87 => (x.f0, x.f1, x.f2, x.f3)) (fun a => ⟨a.1, a.2.1, a.2.2.1, a.2.2.2⟩) (fun _ => rfl) o87
theorem o66 : Opens Try.prog 66 (Kd.slice 87 (k87)) (fun l => l.length * 40 ≤ 140737488351232 ∧ ∀ x ∈ l, (fun b : S87 => (fun x => (fun s => s.size ≤ 140737488351232) x.1 ∧ (fun x => (fun n => (Lit.int .i64 n).wf = true) x.1 ∧ (fun x => (fun n => (Lit.int .i64 n).wf = true) x.1 ∧ (fun n => (Lit.int .i64 n).wf = true) x.2) x.2) x.2) ((b.f0, b.f1, b.f2, b.f3))) x) :=
  opens_slice Try.underlying66 (by kernel_rfl) (by kernel_rfl) o87e
set_option maxRecDepth 100000 in
theorem lifted (os : Os) (started : os.Started) (H : Type) (enc : TypeId × Value → H) :
    ReturnsInHanded {} Try.checked os 14 .any (Rows.fnExactHintTextSpec.pre6 enc Try.prog Try.f14 Rows.fnExactHintTextRow.domain false) (Rows.fnExactHintTextSpec.post enc Try.prog Try.f14 false true false false) := by
  refine returnsInHanded_of_change_sized (C := Try.checked) own started (by kernel_rfl) Try.func14
    (ChangeSpec.witness6 (enc := enc) (C := Try.checked) false ⟨#[], #[.slice none 0 0], []⟩ 8 (by kernel_rfl) (by kernel_rfl) (by kernel_rfl) (by kernel_rfl)) ?_
  intro W base args ds gs before hval0 hW hcnd hsz0 _
  have hsz : (DataW.weightsEach Try.prog (Try.f14.params.toList ++ Rows.fnExactHintTextSpec.plain.varTypes Try.prog) (ds ++ gs)).all (· ≤ reachBytes) = true := hsz0
  have hval : ∀ (j : Nat) t v, Try.f14.params[j]? = some t → args[j]? = some v → Value.okWide Try.prog W .any base t v := hval0
  have hW' := hW
  obtain ⟨p, q, hA0, hV, rfl, hfz, hnd⟩ := hW
  have hA : DataW.TrodAll enc Try.prog W 0 (fun _ => true) true Try.f14.params.toList args.toList ds p := hA0
  rw [Try.params14] at hA hval hsz
  obtain ⟨v0, vs0, d0, ds0, p0, q0, hargs, rfl, rfl, h0, r0⟩ := trodAll_cons hA
  obtain ⟨rfl, rfl, rfl⟩ := trodAll_nil r0
  obtain rfl : args = #[v0] := by cases args; simp_all
  obtain ⟨rfl, rfl⟩ := trodVars_none hV
  have k0 := h0
  have lt0 : ∀ x ∈ p0, x.block < W.heap.size := by obtain ⟨m, hm⟩ := k0; exact DataW.trod_lt m _ _ _ hm
  have wt0 : ∀ n ∈ DataW.weights Try.prog 66 d0, n ≤ reachBytes := fun n hn => of_decide_eq_true (List.all_eq_true.1 hsz n (DataW.weights_mem_each (j := 0) rfl rfl n hn))
  obtain ⟨A0_0, n0, c0_0, rfl⟩ := okWide_slice Try.underlying66 (hval 0 66 v0 rfl rfl)
  obtain ⟨fu0, hf0⟩ := h0
  obtain ⟨l0_0, ⟨B0, D0, e0, hc0_0, hr0_0⟩, Q0⟩ := o66 enc W fu0 _ _ hf0 wt0
  simp only [Value.cells, List.cons.injEq, Value.slice.injEq, and_true] at e0
  obtain ⟨rfl, rfl, rfl⟩ := e0
  clear hA0 hval0 hsz0 hsz
  obtain ⟨k, H⟩ := Pure.FnExactHintText_q l0_0 Q0
  refine (laws_FnExactHintText.calls k A0_0 c0_0 l0_0 true W hr0_0 hc0_0 H).mono fun e W' ⟨he, bel⟩ => ?_
  subst he
  exact ⟨_, rfl, _, _, _, [], _, [], hW', trodAll_mk1 (shut_bool Try.underlying4 _), (trodAll_cons_mk (Below.trod laidOut (by kernel_rfl) (of_decide_eq_true (by kernel_rfl)) k0 bel lt0) trodAll_mk0), rfl, bel.frame _, fun h => by cases h⟩
theorem over : Rows.fnExactHintTextRow.holds Try.pinned (OpenSpec.ofChange Rows.fnExactHintTextSpec) :=
  OpenClaim.holds_of_wide 14 Try.f14 rfl rfl rfl rfl rfl rfl rfl ⟨rfl, rfl, rfl, rfl, rfl⟩ rfl rfl rfl rfl rfl (by kernel_rfl) Try.func14 (by kernel_rfl)
    (of_decide_eq_true (by kernel_rfl)) (by unfold Func.isWrapper; first | (rw [if_pos (by decide +kernel)]; kernel_rfl) | (rw [if_neg (by decide +kernel)]; exact ⟨rfl, rfl⟩))
    (fun os started H enc _ => lifted os started H enc)
theorem proved : Rows.FnExactHintTextSaid := over
end Go.Proofs.Ythgmanojhicchaa.fnExactHintText
namespace Go.Proofs.Ythgmanojhicchaa
theorem fnExactHintText_holds : Rows.FnExactHintTextSaid := fnExactHintText.proved
end Go.Proofs.Ythgmanojhicchaa
