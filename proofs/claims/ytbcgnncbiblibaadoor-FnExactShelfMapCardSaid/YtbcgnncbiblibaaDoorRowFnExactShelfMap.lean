/- The law FnExactShelfMap answers true. For every input that can be read as data; no further condition. -/
import Derived.Test.YtbcgnncbiblibaaDoorRows
import Derived.Test.YtbcgnncbiblibaaDoorTie
import Derived.Test.YtbcgnncbiblibaaDoorCards
import Derived.Test.YtbcgnncbiblibaaDoorPFnExactShelfMapx12
import Derived.Test.YtbcgnncbiblibaaDoorPureFnExactShelfMap
import Derived.Test.YtbcgnncbiblibaaDoorVFnExactShelfMapArgs
import Derived.WalkKit
import Derived.ProofKit
import Derived.OpenShut
import Derived.ShutString
import Derived.ChangeOld
import Derived.Below
import Derived.SizedLaws
import Derived.LaidMore
import Derived.Lib.LaidTab
import Derived.MakeChecks
import Derived.HandedShaped
import Derived.SevenTiedAt
namespace Go.Proofs.YtbcgnncbiblibaaDoor.fnExactShelfMap
open Go.ChangeShapes Go.WideShapes Go.ChangeAt Go.RowKit
open Go.Proofs.YtbcgnncbiblibaaDoor.PFnExactShelfMap Go.Proofs.YtbcgnncbiblibaaDoorW.PrintWords Go.Proofs.YtbcgnncbiblibaaDoor.Args
set_option linter.unusedVariables false
theorem own : ownKnob Tryd.prog.godebug = none := by kernel_rfl
/-- What the row lists. -/
abbrev laid {H : Type} : List (String × DataW H) := [("math/bits.deBruijn32tab", Rows.laid_math_bits_deBruijn32tab), ("math/bits.deBruijn64tab", Rows.laid_math_bits_deBruijn64tab), ("internal/strconv.uint64pow10", Rows.laid_internal_strconv_uint64pow10)]
theorem door_met (os : Os) (args : Array Value) : laidMetH Tryd.prog laid ((World.doorLaid Tryd.prog 400 os).forCall (fun _ _ => 0) ⟨#[], args, []⟩).memory :=
  laidMetH_of_parts3 (fuel := 8) (laidMet_of_run' 8 (by kernel_rfl) (by kernel_rfl)) (by kernel_rfl) (by kernel_rfl)
theorem tb_of {W : World} (h : laidMetH Tryd.prog laid W) : TB W := by
  rw [MakeChecks.laidMetH_plain _ _ _ (by kernel_rfl)] at h
  obtain ⟨ps, ⟨g0, t0, cs0, f0, p0, q0, hg0, ht0, hv0, hd0, ⟨g1, t1, cs1, f1, p1, q1, hg1, ht1, hv1, hd1, ⟨g2, t2, cs2, f2, p2, q2, hg2, ht2, hv2, hd2, _, _⟩, _⟩, _⟩, _, _⟩ := h
  obtain rfl := Option.some.inj ((show Tryd.prog.globalNamed "internal/strconv.uint64pow10" = some 1 by kernel_rfl).symm.trans hg2)
  obtain rfl := Option.some.inj ((show (Tryd.prog.globals[1]?).map (·.type) = some 124 by kernel_rfl).symm.trans ht2)
  have e := Lib.cells_of_tab (zs := Lib.pow10Tab) Tryd.underlying124 Tryd.underlying117 (by kernel_rfl) (by kernel_rfl) hd2
  unfold TB Lib.TabIs
  rw [hv2, ← e]
theorem laidOut : laidOutB Tryd.prog = true := by kernel_rfl
theorem o9 : Opens Tryd.prog 9 (Kd.string) (fun s => s.size ≤ 140737488351232) :=
  opens_string Tryd.underlying9
theorem o91 : Opens Tryd.prog 91 (Kd.pair (Kd.string) (Kd.string)) (fun x => (fun s => s.size ≤ 140737488351232) x.1 ∧ (fun s => s.size ≤ 140737488351232) x.2) :=
  opens_struct Tryd.underlying91 (by kernel_rfl) (opensFs_cons rfl (by kernel_rfl) o9 (opensFs_one rfl (by kernel_rfl) o9))
theorem o91e : Opens Tryd.prog 91 (k91) (fun b : S91 => (fun x => (fun s => s.size ≤ 140737488351232) x.1 ∧ (fun s => s.size ≤ 140737488351232) x.2) ((b.f0, b.f1))) :=
  opens_iso (fun x : S91 => (x.f0, x.f1)) (fun a => ⟨a.1, a.2⟩) (fun _ => rfl) o91
theorem o34 : Opens Tryd.prog 34 (Kd.slice 91 (k91)) (fun l => l.length * 32 ≤ 140737488351232 ∧ ∀ x ∈ l, (fun b : S91 => (fun x => (fun s => s.size ≤ 140737488351232) x.1 ∧ (fun s => s.size ≤ 140737488351232) x.2) ((b.f0, b.f1))) x) :=
  opens_slice Tryd.underlying34 (by kernel_rfl) (by kernel_rfl) o91e
theorem o36 : Opens Tryd.prog 36 (Kd.slice 91 (k91)) (fun l => l.length * 32 ≤ 140737488351232 ∧ ∀ x ∈ l, (fun b : S91 => (fun x => (fun s => s.size ≤ 140737488351232) x.1 ∧ (fun s => s.size ≤ 140737488351232) x.2) ((b.f0, b.f1))) x) :=
  opens_struct Tryd.underlying36 (by kernel_rfl) (opensFs_one rfl (by kernel_rfl) o34)
theorem o3 : Opens Tryd.prog 3 (Kd.int .i64) (fun n => (Lit.int .i64 n).wf = true) :=
  opens_int Tryd.underlying3
theorem o22 : Opens Tryd.prog 22 (Kd.slice 3 (Kd.int .i64)) (fun l => l.length * 8 ≤ 140737488351232 ∧ ∀ x ∈ l, (fun n => (Lit.int .i64 n).wf = true) x) :=
  opens_slice Tryd.underlying22 (by kernel_rfl) (by kernel_rfl) o3
theorem o38 : Opens Tryd.prog 38 (Kd.pair (Kd.slice 3 (Kd.int .i64)) (Kd.pair (Kd.int .i64) (Kd.pair (Kd.int .i64) (Kd.pair (Kd.int .i64) (Kd.slice 3 (Kd.int .i64)))))) (fun x => (fun l => l.length * 8 ≤ 140737488351232 ∧ ∀ x ∈ l, (fun n => (Lit.int .i64 n).wf = true) x) x.1 ∧ (fun x => (fun n => (Lit.int .i64 n).wf = true) x.1 ∧ (fun x => (fun n => (Lit.int .i64 n).wf = true) x.1 ∧ (fun x => (fun n => (Lit.int .i64 n).wf = true) x.1 ∧ (fun l => l.length * 8 ≤ 140737488351232 ∧ ∀ x ∈ l, (fun n => (Lit.int .i64 n).wf = true) x) x.2) x.2) x.2) x.2) :=
  opens_struct Tryd.underlying38 (by kernel_rfl) (opensFs_cons rfl (by kernel_rfl) o22 (opensFs_cons rfl (by kernel_rfl) o3 (opensFs_cons rfl (by kernel_rfl) o3 (opensFs_cons rfl (by kernel_rfl) o3 (opensFs_one rfl (by kernel_rfl) o22)))))
theorem o93 : Opens Tryd.prog 93 (Kd.pair (Kd.string) (Kd.pair (Kd.int .i64) (Kd.pair (Kd.int .i64) (Kd.int .i64)))) (fun x => (fun s => s.size ≤ 140737488351232) x.1 ∧ (fun x => (fun n => (Lit.int .i64 n).wf = true) x.1 ∧ (fun x => (fun n => (Lit.int .i64 n).wf = true) x.1 ∧ (fun n => (Lit.int .i64 n).wf = true) x.2) x.2) x.2) :=
  opens_struct Tryd.underlying93 (by kernel_rfl) (opensFs_cons rfl (by kernel_rfl) o9 (opensFs_cons rfl (by kernel_rfl) o3 (opensFs_cons rfl (by kernel_rfl) o3 (opensFs_one rfl (by kernel_rfl) o3))))
theorem o93e : Opens Tryd.prog 93 (k93) (fun b : S93 => (fun x => (fun s => s.size ≤ 140737488351232) x.1 ∧ (fun x => (fun n => (Lit.int .i64 n).wf = true) x.1 ∧ (fun x => (fun n => (Lit.int .i64 n).wf = true) x.1 ∧ (fun n => (Lit.int .i64 n).wf = true) x.2) x.2) x.2) ((b.f0, b.f1, b.f2, b.f3))) :=
  opens_iso (fun x : S93 => (x.f0, x.f1, x.f2, x.f3)) (fun a => ⟨a.1, a.2.1, a.2.2.1, a.2.2.2⟩) (fun _ => rfl) o93
theorem o39 : Opens Tryd.prog 39 (Kd.slice 93 (k93)) (fun l => l.length * 40 ≤ 140737488351232 ∧ ∀ x ∈ l, (fun b : S93 => (fun x => (fun s => s.size ≤ 140737488351232) x.1 ∧ (fun x => (fun n => (Lit.int .i64 n).wf = true) x.1 ∧ (fun x => (fun n => (Lit.int .i64 n).wf = true) x.1 ∧ (fun n => (Lit.int .i64 n).wf = true) x.2) x.2) x.2) ((b.f0, b.f1, b.f2, b.f3))) x) :=
  opens_slice Tryd.underlying39 (by kernel_rfl) (by kernel_rfl) o93e
theorem o41 : Opens Tryd.prog 41 (Kd.pair (Kd.pair (Kd.slice 3 (Kd.int .i64)) (Kd.pair (Kd.int .i64) (Kd.pair (Kd.int .i64) (Kd.pair (Kd.int .i64) (Kd.slice 3 (Kd.int .i64)))))) (Kd.pair (Kd.slice 93 (k93)) (Kd.int .i64))) (fun x => (fun x => (fun l => l.length * 8 ≤ 140737488351232 ∧ ∀ x ∈ l, (fun n => (Lit.int .i64 n).wf = true) x) x.1 ∧ (fun x => (fun n => (Lit.int .i64 n).wf = true) x.1 ∧ (fun x => (fun n => (Lit.int .i64 n).wf = true) x.1 ∧ (fun x => (fun n => (Lit.int .i64 n).wf = true) x.1 ∧ (fun l => l.length * 8 ≤ 140737488351232 ∧ ∀ x ∈ l, (fun n => (Lit.int .i64 n).wf = true) x) x.2) x.2) x.2) x.2) x.1 ∧ (fun x => (fun l => l.length * 40 ≤ 140737488351232 ∧ ∀ x ∈ l, (fun b : S93 => (fun x => (fun s => s.size ≤ 140737488351232) x.1 ∧ (fun x => (fun n => (Lit.int .i64 n).wf = true) x.1 ∧ (fun x => (fun n => (Lit.int .i64 n).wf = true) x.1 ∧ (fun n => (Lit.int .i64 n).wf = true) x.2) x.2) x.2) ((b.f0, b.f1, b.f2, b.f3))) x) x.1 ∧ (fun n => (Lit.int .i64 n).wf = true) x.2) x.2) :=
  opens_struct Tryd.underlying41 (by kernel_rfl) (opensFs_cons rfl (by kernel_rfl) o38 (opensFs_cons rfl (by kernel_rfl) o39 (opensFs_one rfl (by kernel_rfl) o3)))
set_option maxRecDepth 100000 in
set_option maxHeartbeats 2000000 in
theorem lifted (os : Os) (started : os.Started) (H : Type) (enc : TypeId × Value → H) :
    ReturnsInHanded {} Tryd.checked os 4 .any (fun w args => (Rows.fnExactShelfMapSpec.pre enc Tryd.prog Tryd.f4 [] false w args ∧ laidMetH Tryd.prog laid w) ∧ sizedMet enc Tryd.prog Tryd.f4 (OpenSpec.ofChange Rows.fnExactShelfMapSpec) false w args) (Rows.fnExactShelfMapSpec.post enc Tryd.prog Tryd.f4 false true false false) := by
  refine returnsInHanded_of_change_and (C := Tryd.checked) (X := fun w _ => laidMetH Tryd.prog laid w) (fun _ _ _ hh h => h.of_heap hh) own started (by kernel_rfl) Tryd.func4
    (ChangeSpec.witness_shaped (enc := enc) (C := Tryd.checked) (os := os) (X := fun w _ => laidMetH Tryd.prog laid w) false (World.doorLaid Tryd.prog 400 os) #[.agg #[.slice none 0 0], .agg #[.slice none 0 0, .int .i64 0, .int .i64 0, .int .i64 0, .slice none 0 0, .slice none 0 0, .int .i64 0]] 8 rfl (World.shaped_of_RefB (by kernel_rfl) (by kernel_rfl)) (by kernel_rfl) (by kernel_rfl) (by kernel_rfl) (door_met os _)) ?_
  intro W base args ds gs before hval0 hW hcnd hsz0 hlaid _
  have hsz : (DataW.weightsEach Tryd.prog (Tryd.f4.params.toList ++ Rows.fnExactShelfMapSpec.plain.varTypes Tryd.prog) (ds ++ gs)).all (· ≤ reachBytes) = true := hsz0
  have hval : ∀ (j : Nat) t v, Tryd.f4.params[j]? = some t → args[j]? = some v → Value.okWide Tryd.prog W .any base t v := hval0
  have hW' := hW
  obtain ⟨p, q, hA0, hV, rfl, hfz, hnd⟩ := hW
  have hA : DataW.TrodAll enc Tryd.prog W 0 (fun _ => true) true Tryd.f4.params.toList args.toList ds p := hA0
  rw [Tryd.params4] at hA hval hsz
  obtain ⟨v0, vs0, d0, ds0, p0, q0, hargs, rfl, rfl, h0, r0⟩ := trodAll_cons hA
  obtain ⟨v1, vs1, d1, ds1, p1, q1, rfl, rfl, rfl, h1, r1⟩ := trodAll_cons r0
  obtain ⟨rfl, rfl, rfl⟩ := trodAll_nil r1
  obtain rfl : args = #[v0, v1] := by cases args; simp_all
  obtain ⟨rfl, rfl⟩ := trodVars_none hV
  have k0 := h0
  have lt0 : ∀ x ∈ p0, x.block < W.heap.size := by obtain ⟨m, hm⟩ := k0; exact DataW.trod_lt m _ _ _ hm
  have wt0 : ∀ n ∈ DataW.weights Tryd.prog 36 d0, n ≤ reachBytes := fun n hn => of_decide_eq_true (List.all_eq_true.1 hsz n (DataW.weights_mem_each (j := 0) rfl rfl n hn))
  obtain ⟨C0, rfl, _⟩ := okWide_struct Tryd.underlying36 (hval 0 36 v0 rfl rfl)
  obtain ⟨fu0, hf0⟩ := h0
  obtain ⟨l0_0, K0, Q0⟩ := o36 enc W fu0 _ _ hf0 wt0
  obtain ⟨A0_0, c0_0, e0, hc0_0, hr0_0⟩ := K0
  have E0 : C0 = #[.slice A0_0 l0_0.length c0_0] := agg_of e0
  subst E0
  have k1 := h1
  have lt1 : ∀ x ∈ p1, x.block < W.heap.size := by obtain ⟨m, hm⟩ := k1; exact DataW.trod_lt m _ _ _ hm
  have wt1 : ∀ n ∈ DataW.weights Tryd.prog 41 d1, n ≤ reachBytes := fun n hn => of_decide_eq_true (List.all_eq_true.1 hsz n (DataW.weights_mem_each (j := 1) rfl rfl n hn))
  obtain ⟨C1, rfl, _⟩ := okWide_struct Tryd.underlying41 (hval 1 41 v1 rfl rfl)
  obtain ⟨fu1, hf1⟩ := h1
  obtain ⟨⟨⟨l1_0, a1_1, a1_2, a1_3, l1_4⟩, l1_5, a1_6⟩, K1, Q1⟩ := o41 enc W fu1 _ _ hf1 wt1
  obtain ⟨_, _, e1, ⟨_, _, rfl, ⟨A1_0, c1_0, rfl, hc1_0, hr1_0⟩, ⟨_, _, rfl, rfl, ⟨_, _, rfl, rfl, ⟨_, _, rfl, rfl, ⟨A1_4, c1_4, rfl, hc1_4, hr1_4⟩⟩⟩⟩⟩, ⟨_, _, rfl, ⟨A1_5, c1_5, rfl, hc1_5, hr1_5⟩, rfl⟩⟩ := K1
  have E1 : C1 = #[.slice A1_0 l1_0.length c1_0, .int .i64 a1_1, .int .i64 a1_2, .int .i64 a1_3, .slice A1_4 l1_4.length c1_4, .slice A1_5 l1_5.length c1_5, .int .i64 a1_6] := agg_of e1
  subst E1
  clear hA0 hval0 hsz0 hsz
  have hTB := tb_of hlaid
  obtain ⟨k, H⟩ := Pure.FnExactShelfMap_q l0_0 l1_0 a1_1 a1_2 a1_3 l1_4 l1_5 a1_6 Q0 Q1
  refine (laws_FnExactShelfMap.calls k A0_0 c0_0 l0_0 A1_0 c1_0 l1_0 a1_1 a1_2 a1_3 A1_4 c1_4 l1_4 A1_5 c1_5 l1_5 a1_6 true W hr0_0 hc0_0 hr1_0 hc1_0 hr1_4 hc1_4 hr1_5 hc1_5 H hTB).mono fun e W' ⟨he, bel⟩ => ?_
  subst he
  exact ⟨_, rfl, _, _, _, [], _, [], hW', trodAll_mk1 (shut_bool Tryd.underlying4 _), (trodAll_cons_mk (Below.trod laidOut (by kernel_rfl) (of_decide_eq_true (by kernel_rfl)) k0 bel lt0) (trodAll_cons_mk (Below.trod laidOut (by kernel_rfl) (of_decide_eq_true (by kernel_rfl)) k1 bel lt1) trodAll_mk0)), rfl, bel.frame _, fun h => by cases h⟩
theorem over : Rows.fnExactShelfMapRow.holds Tryd.pinned (OpenSpec.ofChange Rows.fnExactShelfMapSpec) :=
  OpenClaim.holds_of_wide 4 Tryd.f4 rfl rfl rfl rfl rfl rfl rfl ⟨rfl, rfl, rfl, rfl, rfl⟩ rfl rfl rfl rfl rfl (by kernel_rfl) Tryd.func4 (by kernel_rfl)
    (of_decide_eq_true (by kernel_rfl)) (by unfold Func.isWrapper; first | (rw [if_pos (by decide +kernel)]; kernel_rfl) | (rw [if_neg (by decide +kernel)]; exact ⟨rfl, rfl⟩))
    (fun os started H enc _ => lifted os started H enc)
theorem proved : Rows.FnExactShelfMapCardSaid :=
  Claim7.holds_tied_plain_at .later [] [.data, .data, .data] true (true, "9cfb7efb67072369e6202c617a505893860ca3d4550262319337710c92e74ca2") false
    over (fun _ h => by cases h) (by kernel_rfl) (fun _ h => by cases h) fnExactShelfMap_row_tie rfl ⟨rfl, rfl⟩ (by kernel_rfl) rfl
    (fun f fn hf hfn => by
      obtain rfl : f = 4 := Option.some.inj ((show Tryd.prog.funcNamed "loop.example/g00103/laws.FnExactShelfMap" = some 4 by kernel_rfl).symm.trans hf) |>.symm
      obtain rfl : fn = Tryd.f4 := (Option.some.inj (Tryd.func4.symm.trans hfn)).symm
      exact ⟨by kernel_rfl, fun j t ht => by
        rw [Tryd.params4] at ht
        have hm : t ∈ [36, 41] := by simpa using Array.mem_of_getElem? ht
        have hall : ([36, 41].all fun u => !Tryd.prog.wantsStandIn u) = true := by kernel_rfl
        exact (show Tryd.prog.wantsStandIn t = false by simpa using List.all_eq_true.1 hall t hm)⟩)
    (by kernel_rfl)
end Go.Proofs.YtbcgnncbiblibaaDoor.fnExactShelfMap
namespace Go.Proofs.YtbcgnncbiblibaaDoor
theorem fnExactShelfMap_holds : Rows.FnExactShelfMapCardSaid := fnExactShelfMap.proved
end Go.Proofs.YtbcgnncbiblibaaDoor
