/- The law FnExactEncode answers true: the program's Encode returns what the reference's returns, and leaves its argument as it was. For every input that can be read as data; no further condition. -/
import Derived.Test.YtgpafelepkhdoaaRows
import Derived.Test.YtgpafelepkhdoaaPFnExactEncodex12
import Derived.Test.YtgpafelepkhdoaaPureFnExactEncode
import Derived.Test.YtgpafelepkhdoaaVFnExactEncodeArgs
import Derived.WalkKit
import Derived.ProofKit
import Derived.OpenShut
import Derived.ShutString
import Derived.ChangeOld
import Derived.Below
import Derived.SizedLaws
namespace Go.Proofs.Ytgpafelepkhdoaa.fnExactEncode
open Go.ChangeShapes Go.WideShapes Go.ChangeAt Go.RowKit
open Go.Proofs.Ytgpafelepkhdoaa.PFnExactEncode Go.Proofs.YtgpafelepkhdoaaW.PrintWords Go.Proofs.Ytgpafelepkhdoaa.Args
set_option linter.unusedVariables false
theorem own : ownKnob Try.prog.godebug = none := by kernel_rfl
theorem laidOut : laidOutB Try.prog = true := by kernel_rfl
theorem o3 : Opens Try.prog 3 (Kd.int .i64) (fun n => (Lit.int .i64 n).wf = true) :=
  opens_int Try.underlying3
theorem o4 : Opens Try.prog 4 (Kd.bool) (fun _ => True) :=
  opens_bool Try.underlying4
theorem o9 : Opens Try.prog 9 (Kd.string) (fun s => s.size ≤ 140737488351232) :=
  opens_string Try.underlying9
theorem o167 : Opens Try.prog 167 (Kd.pair (Kd.int .i64) (Kd.pair (Kd.int .i64) (Kd.string))) (fun x => (fun n => (Lit.int .i64 n).wf = true) x.1 ∧ (fun x => (fun n => (Lit.int .i64 n).wf = true) x.1 ∧ (fun s => s.size ≤ 140737488351232) x.2) x.2) :=
  opens_struct Try.underlying167 (by kernel_rfl) (opensFs_cons rfl (by kernel_rfl) o3 (opensFs_cons rfl (by kernel_rfl) o3 (opensFs_one rfl (by kernel_rfl) o9)))
theorem o167e : Opens Try.prog 167 (k167) (fun b : S167 => (fun x => (fun n => (Lit.int .i64 n).wf = true) x.1 ∧ (fun x => (fun n => (Lit.int .i64 n).wf = true) x.1 ∧ (fun s => s.size ≤ 140737488351232) x.2) x.2) ((b.f0, b.f1, b.f2))) :=
  opens_iso (fun x : S167 => (x.f0, x.f1, x.f2)) (fun a => ⟨a.1, a.2.1, a.2.2⟩) (fun _ => rfl) o167
theorem o44 : Opens Try.prog 44 (Kd.slice 167 (k167)) (fun l => l.length * 32 ≤ 140737488351232 ∧ ∀ x ∈ l, (fun b : S167 => (fun x => (fun n => (Lit.int .i64 n).wf = true) x.1 ∧ (fun x => (fun n => (Lit.int .i64 n).wf = true) x.1 ∧ (fun s => s.size ≤ 140737488351232) x.2) x.2) ((b.f0, b.f1, b.f2))) x) :=
  opens_slice Try.underlying44 (by kernel_rfl) (by kernel_rfl) o167e
theorem o45 : Opens Try.prog 45 (Kd.slice 3 (Kd.int .i64)) (fun l => l.length * 8 ≤ 140737488351232 ∧ ∀ x ∈ l, (fun n => (Lit.int .i64 n).wf = true) x) :=
  opens_slice Try.underlying45 (by kernel_rfl) (by kernel_rfl) o3
theorem o47 : Opens Try.prog 47 (Kd.pair (Kd.int .i64) (Kd.pair (Kd.int .i64) (Kd.pair (Kd.int .i64) (Kd.pair (Kd.int .i64) (Kd.pair (Kd.int .i64) (Kd.pair (Kd.int .i64) (Kd.pair (Kd.int .i64) (Kd.pair (Kd.bool) (Kd.pair (Kd.slice 167 (k167)) (Kd.pair (Kd.slice 3 (Kd.int .i64)) (Kd.pair (Kd.string) (Kd.bool)))))))))))) (fun x => (fun n => (Lit.int .i64 n).wf = true) x.1 ∧ (fun x => (fun n => (Lit.int .i64 n).wf = true) x.1 ∧ (fun x => (fun n => (Lit.int .i64 n).wf = true) x.1 ∧ (fun x => (fun n => (Lit.int .i64 n).wf = true) x.1 ∧ (fun x => (fun n => (Lit.int .i64 n).wf = true) x.1 ∧ (fun x => (fun n => (Lit.int .i64 n).wf = true) x.1 ∧ (fun x => (fun n => (Lit.int .i64 n).wf = true) x.1 ∧ (fun x => (fun _ => True) x.1 ∧ (fun x => (fun l => l.length * 32 ≤ 140737488351232 ∧ ∀ x ∈ l, (fun b : S167 => (fun x => (fun n => (Lit.int .i64 n).wf = true) x.1 ∧ (fun x => (fun n => (Lit.int .i64 n).wf = true) x.1 ∧ (fun s => s.size ≤ 140737488351232) x.2) x.2) ((b.f0, b.f1, b.f2))) x) x.1 ∧ (fun x => (fun l => l.length * 8 ≤ 140737488351232 ∧ ∀ x ∈ l, (fun n => (Lit.int .i64 n).wf = true) x) x.1 ∧ (fun x => (fun s => s.size ≤ 140737488351232) x.1 ∧ (fun _ => True) x.2) x.2) x.2) x.2) x.2) x.2) x.2) x.2) x.2) x.2) x.2) :=
  opens_struct Try.underlying47 (by kernel_rfl) (opensFs_cons rfl (by kernel_rfl) o3 (opensFs_cons rfl (by kernel_rfl) o3 (opensFs_cons rfl (by kernel_rfl) o3 (opensFs_cons rfl (by kernel_rfl) o3 (opensFs_cons rfl (by kernel_rfl) o3 (opensFs_cons rfl (by kernel_rfl) o3 (opensFs_cons rfl (by kernel_rfl) o3 (opensFs_cons rfl (by kernel_rfl) o4 (opensFs_cons rfl (by kernel_rfl) o44 (opensFs_cons rfl (by kernel_rfl) o45 (opensFs_cons rfl (by kernel_rfl) o9 (opensFs_one rfl (by kernel_rfl) o4))))))))))))
set_option maxRecDepth 100000 in
theorem lifted (os : Os) (started : os.Started) (H : Type) (enc : TypeId × Value → H) :
    ReturnsInHanded {} Try.checked os 14 .any (Rows.fnExactEncodeSpec.pre6 enc Try.prog Try.f14 Rows.fnExactEncodeRow.domain false) (Rows.fnExactEncodeSpec.post enc Try.prog Try.f14 false true false false) := by
  refine returnsInHanded_of_change_sized (C := Try.checked) own started (by kernel_rfl) Try.func14
    (ChangeSpec.witness6 (enc := enc) (C := Try.checked) false ⟨#[], #[.agg #[.int .i64 0, .int .i64 0, .int .i64 0, .int .i64 0, .int .i64 0, .int .i64 0, .int .i64 0, .bool false, .slice none 0 0, .slice none 0 0, .string ⟨#[]⟩, .bool false]], []⟩ 8 (by kernel_rfl) (by kernel_rfl) (by kernel_rfl) (by kernel_rfl)) ?_
  intro W base args ds gs before hval0 hW hcnd hsz0 _
  have hsz : (DataW.weightsEach Try.prog (Try.f14.params.toList ++ Rows.fnExactEncodeSpec.plain.varTypes Try.prog) (ds ++ gs)).all (· ≤ reachBytes) = true := hsz0
  have hval : ∀ (j : Nat) t v, Try.f14.params[j]? = some t → args[j]? = some v → Value.okWide Try.prog W .any base t v := hval0
  have hW' := hW
  obtain ⟨p, q, hA0, hV, rfl, hfz, hnd⟩ := hW
  have hA : DataW.TrodAll enc Try.prog W 0 (fun _ => true) true Try.f14.params.toList args.toList ds p := hA0
  rw [Try.params14] at hA hval hsz
  obtain ⟨v0, vs0, d0, ds0, p0, q0, hargs, rfl, rfl, h0, r0⟩ := trodAll_cons hA
  obtain ⟨rfl, rfl, rfl⟩ := trodAll_nil r0
  obtain rfl : args = #[v0] := by cases args; simp_all
  obtain ⟨rfl, rfl⟩ := trodVars_none hV
  have k0 := h0
  have lt0 : ∀ x ∈ p0, x.block < W.heap.size := by obtain ⟨m, hm⟩ := k0; exact DataW.trod_lt m _ _ _ hm
  have wt0 : ∀ n ∈ DataW.weights Try.prog 47 d0, n ≤ reachBytes := fun n hn => of_decide_eq_true (List.all_eq_true.1 hsz n (DataW.weights_mem_each (j := 0) rfl rfl n hn))
  obtain ⟨C0, rfl, _⟩ := okWide_struct Try.underlying47 (hval 0 47 v0 rfl rfl)
  obtain ⟨fu0, hf0⟩ := h0
  obtain ⟨⟨a0_0, a0_1, a0_2, a0_3, a0_4, a0_5, a0_6, a0_7, l0_8, l0_9, a0_10, a0_11⟩, K0, Q0⟩ := o47 enc W fu0 _ _ hf0 wt0
  obtain ⟨_, _, e0, rfl, ⟨_, _, rfl, rfl, ⟨_, _, rfl, rfl, ⟨_, _, rfl, rfl, ⟨_, _, rfl, rfl, ⟨_, _, rfl, rfl, ⟨_, _, rfl, rfl, ⟨_, _, rfl, rfl, ⟨_, _, rfl, ⟨A0_8, c0_8, rfl, hc0_8, hr0_8⟩, ⟨_, _, rfl, ⟨A0_9, c0_9, rfl, hc0_9, hr0_9⟩, ⟨_, _, rfl, rfl, rfl⟩⟩⟩⟩⟩⟩⟩⟩⟩⟩⟩ := K0
  have E0 : C0 = #[.int .i64 a0_0, .int .i64 a0_1, .int .i64 a0_2, .int .i64 a0_3, .int .i64 a0_4, .int .i64 a0_5, .int .i64 a0_6, .bool a0_7, .slice A0_8 l0_8.length c0_8, .slice A0_9 l0_9.length c0_9, .string a0_10, .bool a0_11] := agg_of e0
  subst E0
  clear hA0 hval0 hsz0 hsz
  obtain ⟨k, H⟩ := Pure.FnExactEncode_q a0_0 a0_1 a0_2 a0_3 a0_4 a0_5 a0_6 a0_7 l0_8 l0_9 a0_10 a0_11 Q0
  refine (laws_FnExactEncode.calls k a0_0 a0_1 a0_2 a0_3 a0_4 a0_5 a0_6 a0_7 A0_8 c0_8 l0_8 A0_9 c0_9 l0_9 a0_10 a0_11 true W hr0_8 hc0_8 hr0_9 hc0_9 H).mono fun e W' ⟨he, bel⟩ => ?_
  subst he
  exact ⟨_, rfl, _, _, _, [], _, [], hW', trodAll_mk1 (shut_bool Try.underlying4 _), (trodAll_cons_mk (Below.trod laidOut (by kernel_rfl) (of_decide_eq_true (by kernel_rfl)) k0 bel lt0) trodAll_mk0), rfl, bel.frame _, fun h => by cases h⟩
theorem over : Rows.fnExactEncodeRow.holds Try.pinned (OpenSpec.ofChange Rows.fnExactEncodeSpec) :=
  OpenClaim.holds_of_wide 14 Try.f14 rfl rfl rfl rfl rfl rfl rfl ⟨rfl, rfl, rfl, rfl, rfl⟩ rfl rfl rfl rfl rfl (by kernel_rfl) Try.func14 (by kernel_rfl)
    (of_decide_eq_true (by kernel_rfl)) (by unfold Func.isWrapper; first | (rw [if_pos (by decide +kernel)]; kernel_rfl) | (rw [if_neg (by decide +kernel)]; exact ⟨rfl, rfl⟩))
    (fun os started H enc _ => lifted os started H enc)
theorem proved : Rows.FnExactEncodeSaid := over
end Go.Proofs.Ytgpafelepkhdoaa.fnExactEncode
namespace Go.Proofs.Ytgpafelepkhdoaa
theorem fnExactEncode_holds : Rows.FnExactEncodeSaid := fnExactEncode.proved
end Go.Proofs.Ytgpafelepkhdoaa
