/- The law FnExactCommandText answers true: the program's CommandText returns what the reference's returns. For every input that can be read as data; no further condition. -/
import Derived.Test.YthgmanojhicchaaRows
import Derived.Test.YthgmanojhicchaaPFnExactCommandTextx7
import Derived.Test.YthgmanojhicchaaPureFnExactCommandText
import Derived.Test.YthgmanojhicchaaArgs
import Derived.WalkKit
import Derived.ProofKit
import Derived.OpenShut
import Derived.ShutString
import Derived.ChangeOld
import Derived.Below
import Derived.SizedLaws
namespace Go.Proofs.Ythgmanojhicchaa.fnExactCommandText
open Go.ChangeShapes Go.WideShapes Go.ChangeAt Go.RowKit
open Go.Proofs.Ythgmanojhicchaa.PFnExactCommandText Go.Proofs.YthgmanojhicchaaW.PrintWords Go.Proofs.Ythgmanojhicchaa.Args
set_option linter.unusedVariables false
theorem own : ownKnob Try.prog.godebug = none := by kernel_rfl
theorem laidOut : laidOutB Try.prog = true := by kernel_rfl
theorem o3 : Opens Try.prog 3 (Kd.int .i64) (fun n => (Lit.int .i64 n).wf = true) :=
  opens_int Try.underlying3
theorem o9 : Opens Try.prog 9 (Kd.string) (fun s => s.size ≤ 140737488351232) :=
  opens_string Try.underlying9
theorem o29 : Opens Try.prog 29 (Kd.pair (Kd.int .i64) (Kd.pair (Kd.int .i64) (Kd.pair (Kd.int .i64) (Kd.pair (Kd.string) (Kd.pair (Kd.string) (Kd.string)))))) (fun x => (fun n => (Lit.int .i64 n).wf = true) x.1 ∧ (fun x => (fun n => (Lit.int .i64 n).wf = true) x.1 ∧ (fun x => (fun n => (Lit.int .i64 n).wf = true) x.1 ∧ (fun x => (fun s => s.size ≤ 140737488351232) x.1 ∧ (fun x => (fun s => s.size ≤ 140737488351232) x.1 ∧ (fun s => s.size ≤ 140737488351232) x.2) x.2) x.2) x.2) x.2) :=
  opens_struct Try.underlying29 (by kernel_rfl) (opensFs_cons rfl (by kernel_rfl) o3 (opensFs_cons rfl (by kernel_rfl) o3 (opensFs_cons rfl (by kernel_rfl) o3 (opensFs_cons rfl (by kernel_rfl) o9 (opensFs_cons rfl (by kernel_rfl) o9 (opensFs_one rfl (by kernel_rfl) o9))))))
set_option maxRecDepth 100000 in
theorem lifted (os : Os) (started : os.Started) (H : Type) (enc : TypeId × Value → H) :
    ReturnsInHanded {} Try.checked os 11 .any (Rows.fnExactCommandTextSpec.pre6 enc Try.prog Try.f11 Rows.fnExactCommandTextRow.domain false) (Rows.fnExactCommandTextSpec.post enc Try.prog Try.f11 false true false false) := by
  refine returnsInHanded_of_change_sized (C := Try.checked) own started (by kernel_rfl) Try.func11
    (ChangeSpec.witness6 (enc := enc) (C := Try.checked) false ⟨#[], #[.agg #[.int .i64 0, .int .i64 0, .int .i64 0, .string ⟨#[]⟩, .string ⟨#[]⟩, .string ⟨#[]⟩]], []⟩ 8 (by kernel_rfl) (by kernel_rfl) (by kernel_rfl) (by kernel_rfl)) ?_
  intro W base args ds gs before hval0 hW hcnd hsz0 _
  have hsz : (DataW.weightsEach Try.prog (Try.f11.params.toList ++ Rows.fnExactCommandTextSpec.plain.varTypes Try.prog) (ds ++ gs)).all (· ≤ reachBytes) = true := hsz0
  have hval : ∀ (j : Nat) t v, Try.f11.params[j]? = some t → args[j]? = some v → Value.okWide Try.prog W .any base t v := hval0
  have hW' := hW
  obtain ⟨p, q, hA0, hV, rfl, hfz, hnd⟩ := hW
  have hA : DataW.TrodAll enc Try.prog W 0 (fun _ => true) true Try.f11.params.toList args.toList ds p := hA0
  rw [Try.params11] at hA hval hsz
  obtain ⟨v0, vs0, d0, ds0, p0, q0, hargs, rfl, rfl, h0, r0⟩ := trodAll_cons hA
  obtain ⟨rfl, rfl, rfl⟩ := trodAll_nil r0
  obtain rfl : args = #[v0] := by cases args; simp_all
  obtain ⟨rfl, rfl⟩ := trodVars_none hV
  have k0 := h0
  have lt0 : ∀ x ∈ p0, x.block < W.heap.size := by obtain ⟨m, hm⟩ := k0; exact DataW.trod_lt m _ _ _ hm
  have wt0 : ∀ n ∈ DataW.weights Try.prog 29 d0, n ≤ reachBytes := fun n hn => of_decide_eq_true (List.all_eq_true.1 hsz n (DataW.weights_mem_each (j := 0) rfl rfl n hn))
  obtain ⟨C0, rfl, _⟩ := okWide_struct Try.underlying29 (hval 0 29 v0 rfl rfl)
  obtain ⟨fu0, hf0⟩ := h0
  obtain ⟨⟨a0_0, a0_1, a0_2, a0_3, a0_4, a0_5⟩, K0, Q0⟩ := o29 enc W fu0 _ _ hf0 wt0
  obtain ⟨_, _, e0, rfl, ⟨_, _, rfl, rfl, ⟨_, _, rfl, rfl, ⟨_, _, rfl, rfl, ⟨_, _, rfl, rfl, rfl⟩⟩⟩⟩⟩ := K0
  have E0 : C0 = #[.int .i64 a0_0, .int .i64 a0_1, .int .i64 a0_2, .string a0_3, .string a0_4, .string a0_5] := agg_of e0
  subst E0
  clear hA0 hval0 hsz0 hsz
  obtain ⟨k, H⟩ := Pure.FnExactCommandText_q a0_0 a0_1 a0_2 a0_3 a0_4 a0_5 Q0
  refine (laws_FnExactCommandText.calls k a0_0 a0_1 a0_2 a0_3 a0_4 a0_5 true W H).mono fun e W' ⟨he, bel⟩ => ?_
  subst he
  exact ⟨_, rfl, _, _, _, [], _, [], hW', trodAll_mk1 (shut_bool Try.underlying4 _), (trodAll_cons_mk (Below.trod laidOut (by kernel_rfl) (of_decide_eq_true (by kernel_rfl)) k0 bel lt0) trodAll_mk0), rfl, bel.frame _, fun h => by cases h⟩
theorem over : Rows.fnExactCommandTextRow.holds Try.pinned (OpenSpec.ofChange Rows.fnExactCommandTextSpec) :=
  OpenClaim.holds_of_wide 11 Try.f11 rfl rfl rfl rfl rfl rfl rfl ⟨rfl, rfl, rfl, rfl, rfl⟩ rfl rfl rfl rfl rfl (by kernel_rfl) Try.func11 (by kernel_rfl)
    (of_decide_eq_true (by kernel_rfl)) (by unfold Func.isWrapper; first | (rw [if_pos (by decide +kernel)]; kernel_rfl) | (rw [if_neg (by decide +kernel)]; exact ⟨rfl, rfl⟩))
    (fun os started H enc _ => lifted os started H enc)
theorem proved : Rows.FnExactCommandTextSaid := over
end Go.Proofs.Ythgmanojhicchaa.fnExactCommandText
namespace Go.Proofs.Ythgmanojhicchaa
theorem fnExactCommandText_holds : Rows.FnExactCommandTextSaid := fnExactCommandText.proved
end Go.Proofs.Ythgmanojhicchaa
