/- The law FnExactInstallShelf answers true. For every input that can be read as data; no further condition. -/
import Derived.Test.YtlmicldpfnmeaaaGreatDoorRows
import Derived.Test.YtlmicldpfnmeaaaGreatDoorTie
import Derived.Test.YtlmicldpfnmeaaaGreatDoorCards
import Derived.Test.YtlmicldpfnmeaaaGreatDoorVFnExactInstallShelfF
import Derived.Test.YtlmicldpfnmeaaaGreatDoorVFnExactInstallShelfL
import Derived.Test.YtlmicldpfnmeaaaGreatDoorVFnExactInstallShelfPb
import Derived.WalkKit
import Derived.ProofKit
import Derived.OpenShut
import Derived.ShutString
import Derived.ChangeOld
import Derived.Below
import Derived.SizedLaws
import Derived.LaidMore
import Derived.Lib.LaidTab
import Derived.MakeChecks
import Derived.HandedShaped
import Derived.SevenTiedAt
namespace Go.Proofs.YtlmicldpfnmeaaaGreatDoor.fnExactInstallShelf
open Go.ChangeShapes Go.WideShapes Go.ChangeAt Go.RowKit
open Go.Proofs.YtlmicldpfnmeaaaGreatDoorW.PrintWords Go.Proofs.YtlmicldpfnmeaaaGreatDoor.Args
open Go.Ev (S171 S173 TBX TabG full k171 k173 pow10V)
set_option linter.all false
theorem own : ownKnob Tryz.prog.godebug = none := by kernel_rfl
/-- What the row lists. -/
abbrev laid {H : Type} : List (String × DataW H) := [("math/bits.deBruijn32tab", Rows.laid_math_bits_deBruijn32tab), ("math/bits.deBruijn64tab", Rows.laid_math_bits_deBruijn64tab), ("internal/strconv.uint64pow10", Rows.laid_internal_strconv_uint64pow10), ("strconv.ErrRange", Rows.laid_strconv_ErrRange), ("strconv.ErrSyntax", Rows.laid_strconv_ErrSyntax)]
theorem door_met (os : Os) (args : Array Value) : laidMetH Tryz.prog laid ((World.doorLaid Tryz.prog 400 os).forCall (fun _ _ => 0) ⟨#[], args, []⟩).memory :=
  laidMetH_of_parts3 (fuel := 8) (laidMet_of_run' 8 (by kernel_rfl) (by kernel_rfl)) (by kernel_rfl) (by kernel_rfl)
theorem iface_of {H : Type} {enc : TypeId × Value → H} {P : Program} {w : World} {base : Nat} {sp : Nat → Bool} {fuel : Nat} {t : TypeId} {ms : Array (String × TypeId)} {cs : List Value} {name : String} {d : DataW H} {p : List MemPlace} (ht : P.underlying t = some (.interface ms)) (hc : P.cellsOf t = 1) (h : DataW.trod enc P w base sp false fuel t cs = some (.iface name d, p)) : ∃ u v, cs = [.iface u v] := by
  cases fuel with
  | zero => simp [DataW.trod] at h
  | succ fuel =>
    unfold DataW.trod at h
    rw [ht] at h
    split at h <;> first | exact ⟨_, _, rfl⟩ | simp_all
theorem tb_of {W : World} (h : laidMetH Tryz.prog laid W) : TBX.T W (full W) := by
  rw [MakeChecks.laidMetH_plain _ _ _ (by kernel_rfl)] at h
  obtain ⟨ps, ⟨g0, t0, cs0, f0, p0, q0, hg0, ht0, hv0, hd0, ⟨g1, t1, cs1, f1, p1, q1, hg1, ht1, hv1, hd1, ⟨g2, t2, cs2, f2, p2, q2, hg2, ht2, hv2, hd2, ⟨g3, t3, cs3, f3, p3, q3, hg3, ht3, hv3, hd3, ⟨g4, t4, cs4, f4, p4, q4, hg4, ht4, hv4, hd4, _, _⟩, _⟩, _⟩, _⟩, _⟩, _, _⟩ := h
  obtain rfl := Option.some.inj ((show Tryz.prog.globalNamed "internal/strconv.uint64pow10" = some 1 by kernel_rfl).symm.trans hg2)
  obtain rfl := Option.some.inj ((show (Tryz.prog.globals[1]?).map (·.type) = some 271 by kernel_rfl).symm.trans ht2)
  have e := Lib.cells_of_tab (zs := Lib.pow10Tab) Tryz.underlying271 Tryz.underlying257 (by kernel_rfl) (by kernel_rfl) hd2
  obtain rfl := Option.some.inj ((show Tryz.prog.globalNamed "strconv.ErrSyntax" = some 2 by kernel_rfl).symm.trans hg4)
  obtain rfl := Option.some.inj ((show (Tryz.prog.globals[2]?).map (·.type) = some 244 by kernel_rfl).symm.trans ht4)
  obtain ⟨te, pe, e4⟩ := iface_of Tryz.underlying244 (by kernel_rfl) hd4
  refine ⟨Go.Ev.TabG.of (by rw [hv2]; exact congrArg some (Array.toList_inj.1 (by rw [e]; rfl))), .iface te pe, Go.Ev.TabG.of (by rw [hv4]; exact congrArg some (Array.toList_inj.1 e4)), Or.inr ⟨te, pe, rfl⟩⟩
theorem laidOut : laidOutB Tryz.prog = true := by kernel_rfl
theorem o9 : Opens Tryz.prog 9 (Kd.string) (fun s => s.size ≤ 140737488351232) :=
  opens_string Tryz.underlying9
theorem o171 : Opens Tryz.prog 171 (Kd.pair (Kd.string) (Kd.string)) (fun x => (fun s => s.size ≤ 140737488351232) x.1 ∧ (fun s => s.size ≤ 140737488351232) x.2) :=
  opens_struct Tryz.underlying171 (by kernel_rfl) (opensFs_cons rfl (by kernel_rfl) o9 (opensFs_one rfl (by kernel_rfl) o9))
theorem o171e : Opens Tryz.prog 171 (k171) (fun b : S171 => (fun x => (fun s => s.size ≤ 140737488351232) x.1 ∧ (fun s => s.size ≤ 140737488351232) x.2) ((b.f0, b.f1))) :=
  opens_iso (fun x : S171 => (x.f0, x.f1)) (fun a => ⟨a.1, a.2⟩) (fun _ => rfl) o171
theorem o22 : Opens Tryz.prog 22 (Kd.slice 171 (k171)) (fun l => l.length * 32 ≤ 140737488351232 ∧ ∀ x ∈ l, (fun b : S171 => (fun x => (fun s => s.size ≤ 140737488351232) x.1 ∧ (fun s => s.size ≤ 140737488351232) x.2) ((b.f0, b.f1))) x) :=
  opens_slice Tryz.underlying22 (by kernel_rfl) (by kernel_rfl) o171e
theorem o24 : Opens Tryz.prog 24 (Kd.slice 171 (k171)) (fun l => l.length * 32 ≤ 140737488351232 ∧ ∀ x ∈ l, (fun b : S171 => (fun x => (fun s => s.size ≤ 140737488351232) x.1 ∧ (fun s => s.size ≤ 140737488351232) x.2) ((b.f0, b.f1))) x) :=
  opens_struct Tryz.underlying24 (by kernel_rfl) (opensFs_one rfl (by kernel_rfl) o22)
theorem o3 : Opens Tryz.prog 3 (Kd.int .i64) (fun n => (Lit.int .i64 n).wf = true) :=
  opens_int Tryz.underlying3
theorem o25 : Opens Tryz.prog 25 (Kd.slice 3 (Kd.int .i64)) (fun l => l.length * 8 ≤ 140737488351232 ∧ ∀ x ∈ l, (fun n => (Lit.int .i64 n).wf = true) x) :=
  opens_slice Tryz.underlying25 (by kernel_rfl) (by kernel_rfl) o3
theorem o27 : Opens Tryz.prog 27 (Kd.pair (Kd.slice 3 (Kd.int .i64)) (Kd.pair (Kd.int .i64) (Kd.pair (Kd.int .i64) (Kd.pair (Kd.int .i64) (Kd.slice 3 (Kd.int .i64)))))) (fun x => (fun l => l.length * 8 ≤ 140737488351232 ∧ ∀ x ∈ l, (fun n => (Lit.int .i64 n).wf = true) x) x.1 ∧ (fun x => (fun n => (Lit.int .i64 n).wf = true) x.1 ∧ (fun x => (fun n => (Lit.int .i64 n).wf = true) x.1 ∧ (fun x => (fun n => (Lit.int .i64 n).wf = true) x.1 ∧ (fun l => l.length * 8 ≤ 140737488351232 ∧ ∀ x ∈ l, (fun n => (Lit.int .i64 n).wf = true) x) x.2) x.2) x.2) x.2) :=
  opens_struct Tryz.underlying27 (by kernel_rfl) (opensFs_cons rfl (by kernel_rfl) o25 (opensFs_cons rfl (by kernel_rfl) o3 (opensFs_cons rfl (by kernel_rfl) o3 (opensFs_cons rfl (by kernel_rfl) o3 (opensFs_one rfl (by kernel_rfl) o25)))))
theorem o173 : Opens Tryz.prog 173 (Kd.pair (Kd.string) (Kd.pair (Kd.int .i64) (Kd.pair (Kd.int .i64) (Kd.int .i64)))) (fun x => (fun s => s.size ≤ 140737488351232) x.1 ∧ (fun x => (fun n => (Lit.int .i64 n).wf = true) x.1 ∧ (fun x => (fun n => (Lit.int .i64 n).wf = true) x.1 ∧ (fun n => (Lit.int .i64 n).wf = true) x.2) x.2) x.2) :=
  opens_struct Tryz.underlying173 (by kernel_rfl) (opensFs_cons rfl (by kernel_rfl) o9 (opensFs_cons rfl (by kernel_rfl) o3 (opensFs_cons rfl (by kernel_rfl) o3 (opensFs_one rfl (by kernel_rfl) o3))))
theorem o173e : Opens Tryz.prog 173 (k173) (fun b : S173 => (fun x => (fun s => s.size ≤ 140737488351232) x.1 ∧ (fun x => (fun n => (Lit.int .i64 n).wf = true) x.1 ∧ (fun x => (fun n => (Lit.int .i64 n).wf = true) x.1 ∧ (fun n => (Lit.int .i64 n).wf = true) x.2) x.2) x.2) ((b.f0, b.f1, b.f2, b.f3))) :=
  opens_iso (fun x : S173 => (x.f0, x.f1, x.f2, x.f3)) (fun a => ⟨a.1, a.2.1, a.2.2.1, a.2.2.2⟩) (fun _ => rfl) o173
theorem o28 : Opens Tryz.prog 28 (Kd.slice 173 (k173)) (fun l => l.length * 40 ≤ 140737488351232 ∧ ∀ x ∈ l, (fun b : S173 => (fun x => (fun s => s.size ≤ 140737488351232) x.1 ∧ (fun x => (fun n => (Lit.int .i64 n).wf = true) x.1 ∧ (fun x => (fun n => (Lit.int .i64 n).wf = true) x.1 ∧ (fun n => (Lit.int .i64 n).wf = true) x.2) x.2) x.2) ((b.f0, b.f1, b.f2, b.f3))) x) :=
  opens_slice Tryz.underlying28 (by kernel_rfl) (by kernel_rfl) o173e
theorem o30 : Opens Tryz.prog 30 (Kd.pair (Kd.pair (Kd.slice 3 (Kd.int .i64)) (Kd.pair (Kd.int .i64) (Kd.pair (Kd.int .i64) (Kd.pair (Kd.int .i64) (Kd.slice 3 (Kd.int .i64)))))) (Kd.pair (Kd.slice 173 (k173)) (Kd.int .i64))) (fun x => (fun x => (fun l => l.length * 8 ≤ 140737488351232 ∧ ∀ x ∈ l, (fun n => (Lit.int .i64 n).wf = true) x) x.1 ∧ (fun x => (fun n => (Lit.int .i64 n).wf = true) x.1 ∧ (fun x => (fun n => (Lit.int .i64 n).wf = true) x.1 ∧ (fun x => (fun n => (Lit.int .i64 n).wf = true) x.1 ∧ (fun l => l.length * 8 ≤ 140737488351232 ∧ ∀ x ∈ l, (fun n => (Lit.int .i64 n).wf = true) x) x.2) x.2) x.2) x.2) x.1 ∧ (fun x => (fun l => l.length * 40 ≤ 140737488351232 ∧ ∀ x ∈ l, (fun b : S173 => (fun x => (fun s => s.size ≤ 140737488351232) x.1 ∧ (fun x => (fun n => (Lit.int .i64 n).wf = true) x.1 ∧ (fun x => (fun n => (Lit.int .i64 n).wf = true) x.1 ∧ (fun n => (Lit.int .i64 n).wf = true) x.2) x.2) x.2) ((b.f0, b.f1, b.f2, b.f3))) x) x.1 ∧ (fun n => (Lit.int .i64 n).wf = true) x.2) x.2) :=
  opens_struct Tryz.underlying30 (by kernel_rfl) (opensFs_cons rfl (by kernel_rfl) o27 (opensFs_cons rfl (by kernel_rfl) o28 (opensFs_one rfl (by kernel_rfl) o3)))
set_option maxRecDepth 100000 in
set_option maxHeartbeats 2000000 in
theorem lifted (os : Os) (started : os.Started) (H : Type) (enc : TypeId × Value → H) :
    ReturnsInHanded {} Tryz.checked os 7 .any (fun w args => (Rows.fnExactInstallShelfSpec.pre enc Tryz.prog Tryz.f7 [] false w args ∧ laidMetH Tryz.prog laid w) ∧ sizedMet enc Tryz.prog Tryz.f7 (OpenSpec.ofChange Rows.fnExactInstallShelfSpec) false w args) (Rows.fnExactInstallShelfSpec.post enc Tryz.prog Tryz.f7 false true false false) := by
  refine returnsInHanded_of_change_and (C := Tryz.checked) (X := fun w _ => laidMetH Tryz.prog laid w) (fun _ _ _ hh h => h.of_heap hh) own started (by kernel_rfl) Tryz.func7
    (ChangeSpec.witness_shaped (enc := enc) (C := Tryz.checked) (os := os) (X := fun w _ => laidMetH Tryz.prog laid w) false (World.doorLaid Tryz.prog 400 os) #[.agg #[.slice none 0 0], .agg #[.slice none 0 0, .int .i64 0, .int .i64 0, .int .i64 0, .slice none 0 0, .slice none 0 0, .int .i64 0], .string ⟨#[]⟩, .int .i64 0, .int .i64 0, .slice none 0 0] 8 rfl (World.shaped_of_RefB (by kernel_rfl) (by kernel_rfl)) (by kernel_rfl) (by kernel_rfl) (by kernel_rfl) (door_met os _)) ?_
  intro W base args ds gs before hval0 hW hcnd hsz0 hlaid _
  have hsz : (DataW.weightsEach Tryz.prog (Tryz.f7.params.toList ++ Rows.fnExactInstallShelfSpec.plain.varTypes Tryz.prog) (ds ++ gs)).all (· ≤ reachBytes) = true := hsz0
  have hval : ∀ (j : Nat) t v, Tryz.f7.params[j]? = some t → args[j]? = some v → Value.okWide Tryz.prog W .any base t v := hval0
  have hW' := hW
  obtain ⟨p, q, hA0, hV, rfl, hfz, hnd⟩ := hW
  have hA : DataW.TrodAll enc Tryz.prog W 0 (fun _ => true) true Tryz.f7.params.toList args.toList ds p := hA0
  rw [Tryz.params7] at hA hval hsz
  obtain ⟨v0, vs0, d0, ds0, p0, q0, hargs, rfl, rfl, h0, r0⟩ := trodAll_cons hA
  obtain ⟨v1, vs1, d1, ds1, p1, q1, rfl, rfl, rfl, h1, r1⟩ := trodAll_cons r0
  obtain ⟨v2, vs2, d2, ds2, p2, q2, rfl, rfl, rfl, h2, r2⟩ := trodAll_cons r1
  obtain ⟨v3, vs3, d3, ds3, p3, q3, rfl, rfl, rfl, h3, r3⟩ := trodAll_cons r2
  obtain ⟨v4, vs4, d4, ds4, p4, q4, rfl, rfl, rfl, h4, r4⟩ := trodAll_cons r3
  obtain ⟨v5, vs5, d5, ds5, p5, q5, rfl, rfl, rfl, h5, r5⟩ := trodAll_cons r4
  obtain ⟨rfl, rfl, rfl⟩ := trodAll_nil r5
  obtain rfl : args = #[v0, v1, v2, v3, v4, v5] := by cases args; simp_all
  obtain ⟨rfl, rfl⟩ := trodVars_none hV
  have k0 := h0
  have lt0 : ∀ x ∈ p0, x.block < W.heap.size := by obtain ⟨m, hm⟩ := k0; exact DataW.trod_lt m _ _ _ hm
  have wt0 : ∀ n ∈ DataW.weights Tryz.prog 24 d0, n ≤ reachBytes := fun n hn => of_decide_eq_true (List.all_eq_true.1 hsz n (DataW.weights_mem_each (j := 0) rfl rfl n hn))
  obtain ⟨C0, rfl, _⟩ := okWide_struct Tryz.underlying24 (hval 0 24 v0 rfl rfl)
  obtain ⟨fu0, hf0⟩ := h0
  obtain ⟨l0_0, K0, Q0⟩ := o24 enc W fu0 _ _ hf0 wt0
  obtain ⟨A0_0, c0_0, e0, hc0_0, hr0_0⟩ := K0
  have E0 : C0 = #[.slice A0_0 l0_0.length c0_0] := agg_of e0
  subst E0
  have k1 := h1
  have lt1 : ∀ x ∈ p1, x.block < W.heap.size := by obtain ⟨m, hm⟩ := k1; exact DataW.trod_lt m _ _ _ hm
  have wt1 : ∀ n ∈ DataW.weights Tryz.prog 30 d1, n ≤ reachBytes := fun n hn => of_decide_eq_true (List.all_eq_true.1 hsz n (DataW.weights_mem_each (j := 1) rfl rfl n hn))
  obtain ⟨C1, rfl, _⟩ := okWide_struct Tryz.underlying30 (hval 1 30 v1 rfl rfl)
  obtain ⟨fu1, hf1⟩ := h1
  obtain ⟨⟨⟨l1_0, a1_1, a1_2, a1_3, l1_4⟩, l1_5, a1_6⟩, K1, Q1⟩ := o30 enc W fu1 _ _ hf1 wt1
  obtain ⟨_, _, e1, ⟨_, _, rfl, ⟨A1_0, c1_0, rfl, hc1_0, hr1_0⟩, ⟨_, _, rfl, rfl, ⟨_, _, rfl, rfl, ⟨_, _, rfl, rfl, ⟨A1_4, c1_4, rfl, hc1_4, hr1_4⟩⟩⟩⟩⟩, ⟨_, _, rfl, ⟨A1_5, c1_5, rfl, hc1_5, hr1_5⟩, rfl⟩⟩ := K1
  have E1 : C1 = #[.slice A1_0 l1_0.length c1_0, .int .i64 a1_1, .int .i64 a1_2, .int .i64 a1_3, .slice A1_4 l1_4.length c1_4, .slice A1_5 l1_5.length c1_5, .int .i64 a1_6] := agg_of e1
  subst E1
  have k2 := h2
  have lt2 : ∀ x ∈ p2, x.block < W.heap.size := by obtain ⟨m, hm⟩ := k2; exact DataW.trod_lt m _ _ _ hm
  have wt2 : ∀ n ∈ DataW.weights Tryz.prog 9 d2, n ≤ reachBytes := fun n hn => of_decide_eq_true (List.all_eq_true.1 hsz n (DataW.weights_mem_each (j := 2) rfl rfl n hn))
  obtain ⟨a2_0, rfl⟩ := okWide_string Tryz.underlying9 (hval 2 9 v2 rfl rfl)
  obtain ⟨fu2, hf2⟩ := h2
  obtain ⟨b2, e2, Q2⟩ := o9 enc W fu2 _ _ hf2 wt2
  obtain rfl : a2_0 = b2 := by have e := e2; simp only [Kd.string, Kd.scalar, Value.cells, List.cons.injEq, Value.string.injEq, and_true] at e; exact e
  have k3 := h3
  have lt3 : ∀ x ∈ p3, x.block < W.heap.size := by obtain ⟨m, hm⟩ := k3; exact DataW.trod_lt m _ _ _ hm
  have wt3 : ∀ n ∈ DataW.weights Tryz.prog 3 d3, n ≤ reachBytes := fun n hn => of_decide_eq_true (List.all_eq_true.1 hsz n (DataW.weights_mem_each (j := 3) rfl rfl n hn))
  obtain ⟨a3_0, rfl⟩ := okWide_int Tryz.underlying3 (hval 3 3 v3 rfl rfl)
  obtain ⟨fu3, hf3⟩ := h3
  obtain ⟨b3, e3, Q3⟩ := o3 enc W fu3 _ _ hf3 wt3
  obtain rfl : a3_0 = b3 := by have e := e3; simp only [Kd.int, Kd.scalar, Value.cells, List.cons.injEq, Value.int.injEq, and_true, true_and] at e; first | exact e | exact e.2
  have k4 := h4
  have lt4 : ∀ x ∈ p4, x.block < W.heap.size := by obtain ⟨m, hm⟩ := k4; exact DataW.trod_lt m _ _ _ hm
  have wt4 : ∀ n ∈ DataW.weights Tryz.prog 3 d4, n ≤ reachBytes := fun n hn => of_decide_eq_true (List.all_eq_true.1 hsz n (DataW.weights_mem_each (j := 4) rfl rfl n hn))
  obtain ⟨a4_0, rfl⟩ := okWide_int Tryz.underlying3 (hval 4 3 v4 rfl rfl)
  obtain ⟨fu4, hf4⟩ := h4
  obtain ⟨b4, e4, Q4⟩ := o3 enc W fu4 _ _ hf4 wt4
  obtain rfl : a4_0 = b4 := by have e := e4; simp only [Kd.int, Kd.scalar, Value.cells, List.cons.injEq, Value.int.injEq, and_true, true_and] at e; first | exact e | exact e.2
  have k5 := h5
  have lt5 : ∀ x ∈ p5, x.block < W.heap.size := by obtain ⟨m, hm⟩ := k5; exact DataW.trod_lt m _ _ _ hm
  have wt5 : ∀ n ∈ DataW.weights Tryz.prog 25 d5, n ≤ reachBytes := fun n hn => of_decide_eq_true (List.all_eq_true.1 hsz n (DataW.weights_mem_each (j := 5) rfl rfl n hn))
  obtain ⟨A5_0, n5, c5_0, rfl⟩ := okWide_slice Tryz.underlying25 (hval 5 25 v5 rfl rfl)
  obtain ⟨fu5, hf5⟩ := h5
  obtain ⟨l5_0, ⟨B5, D5, e5, hc5_0, hr5_0⟩, Q5⟩ := o25 enc W fu5 _ _ hf5 wt5
  simp only [Value.cells, List.cons.injEq, Value.slice.injEq, and_true] at e5
  obtain ⟨rfl, rfl, rfl⟩ := e5
  clear hA0 hval0 hsz0 hsz
  have hTB := tb_of hlaid
  obtain ⟨k, H⟩ := Go.Ep.FnExactInstallShelf_q l0_0 l1_0 a1_1 a1_2 a1_3 l1_4 l1_5 a1_6 a2_0 a3_0 a4_0 l5_0 Q0 Q1 Q2 Q3 Q4 Q5
  refine (Go.Ev.laws_FnExactInstallShelf.calls k A0_0 c0_0 l0_0 A1_0 c1_0 l1_0 a1_1 a1_2 a1_3 A1_4 c1_4 l1_4 A1_5 c1_5 l1_5 a1_6 a2_0 a3_0 a4_0 A5_0 c5_0 l5_0 true W hr0_0 hc0_0 hr1_0 hc1_0 hr1_4 hc1_4 hr1_5 hc1_5 hr5_0 hc5_0 H hTB).mono fun e W' ⟨he, bel⟩ => ?_
  subst he
  exact ⟨_, rfl, _, _, _, [], _, [], hW', trodAll_mk1 (shut_bool Tryz.underlying4 _), (trodAll_cons_mk (Below.trod laidOut (by kernel_rfl) (of_decide_eq_true (by kernel_rfl)) k0 bel lt0) (trodAll_cons_mk (Below.trod laidOut (by kernel_rfl) (of_decide_eq_true (by kernel_rfl)) k1 bel lt1) (trodAll_cons_mk (Below.trod laidOut (by kernel_rfl) (of_decide_eq_true (by kernel_rfl)) k2 bel lt2) (trodAll_cons_mk (Below.trod laidOut (by kernel_rfl) (of_decide_eq_true (by kernel_rfl)) k3 bel lt3) (trodAll_cons_mk (Below.trod laidOut (by kernel_rfl) (of_decide_eq_true (by kernel_rfl)) k4 bel lt4) (trodAll_cons_mk (Below.trod laidOut (by kernel_rfl) (of_decide_eq_true (by kernel_rfl)) k5 bel lt5) trodAll_mk0)))))), rfl, bel.frame _, fun h => by cases h⟩
theorem over : Rows.fnExactInstallShelfRow.holds Tryz.pinned (OpenSpec.ofChange Rows.fnExactInstallShelfSpec) :=
  OpenClaim.holds_of_wide 7 Tryz.f7 rfl rfl rfl rfl rfl rfl rfl ⟨rfl, rfl, rfl, rfl, rfl⟩ rfl rfl rfl rfl rfl (by kernel_rfl) Tryz.func7 closed
    (of_decide_eq_true (by kernel_rfl)) (by unfold Func.isWrapper; first | (rw [if_pos (by decide +kernel)]; kernel_rfl) | (rw [if_neg (by decide +kernel)]; exact ⟨rfl, rfl⟩))
    (fun os started H enc _ => lifted os started H enc)
theorem proved : Rows.FnExactInstallShelfCardSaid :=
  Claim7.holds_tied_plain_at .later [] [.data, .data, .data, .sentinel, .sentinel] true (true, "16b1db0768ba2a9f5cbaac4d12258301ba5e55da28f7f23efd5139271d52a7ee") true
    over (fun _ h => by cases h) r1 (fun _ h => by cases h) fnExactInstallShelf_row_tie rfl ⟨rfl, rfl⟩ r2 rfl
    (fun f fn hf hfn => by
      obtain rfl : f = 7 := Option.some.inj (r6.symm.trans hf) |>.symm
      obtain rfl : fn = Tryz.f7 := (Option.some.inj (Tryz.func7.symm.trans hfn)).symm
      exact ⟨r3, fun j t ht => by
        rw [Tryz.params7] at ht
        have hm : t ∈ [24, 30, 9, 3, 3, 25] := by simpa using Array.mem_of_getElem? ht
        have hall := r4
        exact (show Tryz.prog.wantsStandIn t = false by simpa using List.all_eq_true.1 hall t hm)⟩)
    r5
end Go.Proofs.YtlmicldpfnmeaaaGreatDoor.fnExactInstallShelf
namespace Go.Proofs.YtlmicldpfnmeaaaGreatDoor
theorem fnExactInstallShelf_holds : Rows.FnExactInstallShelfCardSaid := fnExactInstallShelf.proved
end Go.Proofs.YtlmicldpfnmeaaaGreatDoor
