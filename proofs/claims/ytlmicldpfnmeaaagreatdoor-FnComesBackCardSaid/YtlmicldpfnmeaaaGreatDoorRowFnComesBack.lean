/- The law FnComesBack answers true. For every input that can be read as data; no further condition. -/
import Derived.Test.YtlmicldpfnmeaaaGreatDoorRows
import Derived.Test.YtlmicldpfnmeaaaGreatDoorTie
import Derived.Test.YtlmicldpfnmeaaaGreatDoorCards
import Derived.Test.YtlmicldpfnmeaaaGreatDoorVFnComesBackF
import Derived.Test.YtlmicldpfnmeaaaGreatDoorVFnComesBackL
import Derived.Test.YtlmicldpfnmeaaaGreatDoorVFnComesBackPb
import Derived.WalkKit
import Derived.ProofKit
import Derived.OpenShut
import Derived.ShutString
import Derived.ChangeOld
import Derived.Below
import Derived.SizedLaws
import Derived.LaidMore
import Derived.Lib.LaidTab
import Derived.MakeChecks
import Derived.HandedShaped
import Derived.SevenTiedAt
namespace Go.Proofs.YtlmicldpfnmeaaaGreatDoor.fnComesBack
open Go.ChangeShapes Go.WideShapes Go.ChangeAt Go.RowKit
open Go.Proofs.YtlmicldpfnmeaaaGreatDoorW.PrintWords Go.Proofs.YtlmicldpfnmeaaaGreatDoor.Args
open Go.Ev (TBX TabG full pow10V)
set_option linter.all false
theorem own : ownKnob Tryz.prog.godebug = none := by kernel_rfl
/-- What the row lists. -/
abbrev laid {H : Type} : List (String × DataW H) := [("math/bits.deBruijn32tab", Rows.laid_math_bits_deBruijn32tab), ("math/bits.deBruijn64tab", Rows.laid_math_bits_deBruijn64tab), ("internal/strconv.uint64pow10", Rows.laid_internal_strconv_uint64pow10), ("strconv.ErrRange", Rows.laid_strconv_ErrRange), ("strconv.ErrSyntax", Rows.laid_strconv_ErrSyntax)]
theorem door_met (os : Os) (args : Array Value) : laidMetH Tryz.prog laid ((World.doorLaid Tryz.prog 400 os).forCall (fun _ _ => 0) ⟨#[], args, []⟩).memory :=
  laidMetH_of_parts3 (fuel := 8) (laidMet_of_run' 8 (by kernel_rfl) (by kernel_rfl)) (by kernel_rfl) (by kernel_rfl)
theorem iface_of {H : Type} {enc : TypeId × Value → H} {P : Program} {w : World} {base : Nat} {sp : Nat → Bool} {fuel : Nat} {t : TypeId} {ms : Array (String × TypeId)} {cs : List Value} {name : String} {d : DataW H} {p : List MemPlace} (ht : P.underlying t = some (.interface ms)) (hc : P.cellsOf t = 1) (h : DataW.trod enc P w base sp false fuel t cs = some (.iface name d, p)) : ∃ u v, cs = [.iface u v] := by
  cases fuel with
  | zero => simp [DataW.trod] at h
  | succ fuel =>
    unfold DataW.trod at h
    rw [ht] at h
    split at h <;> first | exact ⟨_, _, rfl⟩ | simp_all
theorem tb_of {W : World} (h : laidMetH Tryz.prog laid W) : TBX.T W (full W) := by
  rw [MakeChecks.laidMetH_plain _ _ _ (by kernel_rfl)] at h
  obtain ⟨ps, ⟨g0, t0, cs0, f0, p0, q0, hg0, ht0, hv0, hd0, ⟨g1, t1, cs1, f1, p1, q1, hg1, ht1, hv1, hd1, ⟨g2, t2, cs2, f2, p2, q2, hg2, ht2, hv2, hd2, ⟨g3, t3, cs3, f3, p3, q3, hg3, ht3, hv3, hd3, ⟨g4, t4, cs4, f4, p4, q4, hg4, ht4, hv4, hd4, _, _⟩, _⟩, _⟩, _⟩, _⟩, _, _⟩ := h
  obtain rfl := Option.some.inj ((show Tryz.prog.globalNamed "internal/strconv.uint64pow10" = some 1 by kernel_rfl).symm.trans hg2)
  obtain rfl := Option.some.inj ((show (Tryz.prog.globals[1]?).map (·.type) = some 271 by kernel_rfl).symm.trans ht2)
  have e := Lib.cells_of_tab (zs := Lib.pow10Tab) Tryz.underlying271 Tryz.underlying257 (by kernel_rfl) (by kernel_rfl) hd2
  obtain rfl := Option.some.inj ((show Tryz.prog.globalNamed "strconv.ErrSyntax" = some 2 by kernel_rfl).symm.trans hg4)
  obtain rfl := Option.some.inj ((show (Tryz.prog.globals[2]?).map (·.type) = some 244 by kernel_rfl).symm.trans ht4)
  obtain ⟨te, pe, e4⟩ := iface_of Tryz.underlying244 (by kernel_rfl) hd4
  refine ⟨Go.Ev.TabG.of (by rw [hv2]; exact congrArg some (Array.toList_inj.1 (by rw [e]; rfl))), .iface te pe, Go.Ev.TabG.of (by rw [hv4]; exact congrArg some (Array.toList_inj.1 e4)), Or.inr ⟨te, pe, rfl⟩⟩
theorem laidOut : laidOutB Tryz.prog = true := by kernel_rfl
theorem o5 : Opens Tryz.prog 5 (Kd.int .u8) (fun n => (Lit.int .u8 n).wf = true) :=
  opens_int Tryz.underlying5
theorem o55 : Opens Tryz.prog 55 (Kd.slice 5 (Kd.int .u8)) (fun l => l.length * 1 ≤ 140737488351232 ∧ ∀ x ∈ l, (fun n => (Lit.int .u8 n).wf = true) x) :=
  opens_slice Tryz.underlying55 (by kernel_rfl) (by kernel_rfl) o5
set_option maxRecDepth 100000 in
set_option maxHeartbeats 2000000 in
theorem lifted (os : Os) (started : os.Started) (H : Type) (enc : TypeId × Value → H) :
    ReturnsInHanded {} Tryz.checked os 11 .any (fun w args => (Rows.fnComesBackSpec.pre enc Tryz.prog Tryz.f11 [] false w args ∧ laidMetH Tryz.prog laid w) ∧ sizedMet enc Tryz.prog Tryz.f11 (OpenSpec.ofChange Rows.fnComesBackSpec) false w args) (Rows.fnComesBackSpec.post enc Tryz.prog Tryz.f11 false true false false) := by
  refine returnsInHanded_of_change_and (C := Tryz.checked) (X := fun w _ => laidMetH Tryz.prog laid w) (fun _ _ _ hh h => h.of_heap hh) own started (by kernel_rfl) Tryz.func11
    (ChangeSpec.witness_shaped (enc := enc) (C := Tryz.checked) (os := os) (X := fun w _ => laidMetH Tryz.prog laid w) false (World.doorLaid Tryz.prog 400 os) #[.slice none 0 0] 8 rfl (World.shaped_of_RefB (by kernel_rfl) (by kernel_rfl)) (by kernel_rfl) (by kernel_rfl) (by kernel_rfl) (door_met os _)) ?_
  intro W base args ds gs before hval0 hW hcnd hsz0 hlaid _
  have hsz : (DataW.weightsEach Tryz.prog (Tryz.f11.params.toList ++ Rows.fnComesBackSpec.plain.varTypes Tryz.prog) (ds ++ gs)).all (· ≤ reachBytes) = true := hsz0
  have hval : ∀ (j : Nat) t v, Tryz.f11.params[j]? = some t → args[j]? = some v → Value.okWide Tryz.prog W .any base t v := hval0
  have hW' := hW
  obtain ⟨p, q, hA0, hV, rfl, hfz, hnd⟩ := hW
  have hA : DataW.TrodAll enc Tryz.prog W 0 (fun _ => true) true Tryz.f11.params.toList args.toList ds p := hA0
  rw [Tryz.params11] at hA hval hsz
  obtain ⟨v0, vs0, d0, ds0, p0, q0, hargs, rfl, rfl, h0, r0⟩ := trodAll_cons hA
  obtain ⟨rfl, rfl, rfl⟩ := trodAll_nil r0
  obtain rfl : args = #[v0] := by cases args; simp_all
  obtain ⟨rfl, rfl⟩ := trodVars_none hV
  have k0 := h0
  have lt0 : ∀ x ∈ p0, x.block < W.heap.size := by obtain ⟨m, hm⟩ := k0; exact DataW.trod_lt m _ _ _ hm
  have wt0 : ∀ n ∈ DataW.weights Tryz.prog 55 d0, n ≤ reachBytes := fun n hn => of_decide_eq_true (List.all_eq_true.1 hsz n (DataW.weights_mem_each (j := 0) rfl rfl n hn))
  obtain ⟨A0_0, n0, c0_0, rfl⟩ := okWide_slice Tryz.underlying55 (hval 0 55 v0 rfl rfl)
  obtain ⟨fu0, hf0⟩ := h0
  obtain ⟨l0_0, ⟨B0, D0, e0, hc0_0, hr0_0⟩, Q0⟩ := o55 enc W fu0 _ _ hf0 wt0
  simp only [Value.cells, List.cons.injEq, Value.slice.injEq, and_true] at e0
  obtain ⟨rfl, rfl, rfl⟩ := e0
  clear hA0 hval0 hsz0 hsz
  have hTB := tb_of hlaid
  obtain ⟨k, H⟩ := Go.Ep.FnComesBack_q l0_0 Q0
  refine (Go.Ev.laws_FnComesBack.calls k A0_0 c0_0 l0_0 true W hr0_0 hc0_0 H hTB).mono fun e W' ⟨he, bel⟩ => ?_
  subst he
  exact ⟨_, rfl, _, _, _, [], _, [], hW', trodAll_mk1 (shut_bool Tryz.underlying4 _), (trodAll_cons_mk (Below.trod laidOut (by kernel_rfl) (of_decide_eq_true (by kernel_rfl)) k0 bel lt0) trodAll_mk0), rfl, bel.frame _, fun h => by cases h⟩
theorem over : Rows.fnComesBackRow.holds Tryz.pinned (OpenSpec.ofChange Rows.fnComesBackSpec) :=
  OpenClaim.holds_of_wide 11 Tryz.f11 rfl rfl rfl rfl rfl rfl rfl ⟨rfl, rfl, rfl, rfl, rfl⟩ rfl rfl rfl rfl rfl (by kernel_rfl) Tryz.func11 closed
    (of_decide_eq_true (by kernel_rfl)) (by unfold Func.isWrapper; first | (rw [if_pos (by decide +kernel)]; kernel_rfl) | (rw [if_neg (by decide +kernel)]; exact ⟨rfl, rfl⟩))
    (fun os started H enc _ => lifted os started H enc)
theorem proved : Rows.FnComesBackCardSaid :=
  Claim7.holds_tied_plain_at .later [] [.data, .data, .data, .sentinel, .sentinel] true (true, "16b1db0768ba2a9f5cbaac4d12258301ba5e55da28f7f23efd5139271d52a7ee") true
    over (fun _ h => by cases h) r1 (fun _ h => by cases h) fnComesBack_row_tie rfl ⟨rfl, rfl⟩ r2 rfl
    (fun f fn hf hfn => by
      obtain rfl : f = 11 := Option.some.inj (r6.symm.trans hf) |>.symm
      obtain rfl : fn = Tryz.f11 := (Option.some.inj (Tryz.func11.symm.trans hfn)).symm
      exact ⟨r3, fun j t ht => by
        rw [Tryz.params11] at ht
        have hm : t ∈ [55] := by simpa using Array.mem_of_getElem? ht
        have hall := r4
        exact (show Tryz.prog.wantsStandIn t = false by simpa using List.all_eq_true.1 hall t hm)⟩)
    r5
end Go.Proofs.YtlmicldpfnmeaaaGreatDoor.fnComesBack
namespace Go.Proofs.YtlmicldpfnmeaaaGreatDoor
theorem fnComesBack_holds : Rows.FnComesBackCardSaid := fnComesBack.proved
end Go.Proofs.YtlmicldpfnmeaaaGreatDoor
