/- The contracts of the Go functions that this law reaches: what each call returns, by a plain Lean function of its arguments. No conditions but those each contract names. By the kit's print.py, run by this session's wip/gen/pp.py with facts and hand proofs beside it: not to the letter what print.sh prints. -/
import Derived.Test.YtbcgnncbiblibaaDoorPFnExactFormatShelfx0
import Derived.Test.YtbcgnncbiblibaaDoorPFnExactFormatShelfx3
import Derived.Test.YtbcgnncbiblibaaDoorPFnExactFormatShelfx4
import Derived.Test.YtbcgnncbiblibaaDoorPFnExactFormatShelfx5
import Derived.Test.YtbcgnncbiblibaaDoorPFnExactFormatShelfx6
namespace Go.Proofs.YtbcgnncbiblibaaDoor.PFnExactFormatShelf
open Go.RowKit Go.Proofs.YtbcgnncbiblibaaDoorW.PrintWords Go.Proofs.YtbcgnncbiblibaaDoorW.PrintLast Go.Proofs.YtbcgnncbiblibaaDoorW.PrintMore
attribute [local go_sem] max2_int min2_int max_two min_two max_three min_three max_four min_four   -- for this text's walks alone
set_option linter.unusedVariables false
set_option linter.unusedSimpArgs false

/-! ### laws_FnExactFormatShelf: function 3 -/
mutual
def laws_FnExactFormatShelf.j0 : Nat → List Int → Bool → List Int → Bool → Bool → List (S62) → List (S62) → Option (Bool)
  | 0, _, _, _, _, _, _, _ => none
  | k + 1, x0, x4, x5, x7, x37, x245000, x253000 => if x37 = true then (some false) else ((laws_toIntS.f k x0).bind fun t254 => ((laws_eqIntS.f k x5 t254).bind fun t257 => (if t257 = true then ((laws_markIntS.f k x5 1).bind fun bt258 => (if bt258.1 < 0 then (laws_FnExactFormatShelf.j1 k x0 x4 true x245000 x253000) else ((laws_eqDisk.f k x253000 x245000).bind fun t260 => (if t260 = true then (laws_FnExactFormatShelf.j1 k x0 x4 (x7 != x4) x245000 x253000) else (laws_FnExactFormatShelf.j1 k x0 x4 true x245000 x253000))))) else (some false))))
def laws_FnExactFormatShelf.j1 : Nat → List Int → Bool → Bool → List (S62) → List (S62) → Option (Bool)
  | 0, _, _, _, _, _ => none
  | k + 1, x0, x4, x58, x245000, x253000 => if x58 = true then (some false) else ((laws_markDisk.f k x253000 1).bind fun bt261 => ((laws_heldDisk.f k bt261.2 1).bind fun t263 => (if t263 < 0 then (some false) else (if t263 = bt261.1 then ((laws_toIntS.f k x0).bind fun t264 => ((impl_FormatShelf.f k t264).bind fun bt267 => ((laws_eqDisk.f k bt267.1 x245000).bind fun t272 => (if t272 = true then (laws_FnExactFormatShelf.j2 k bt261.1 (bt267.2 != x4) bt261.2) else (laws_FnExactFormatShelf.j2 k bt261.1 true bt261.2))))) else (some false)))))
def laws_FnExactFormatShelf.j2 : Nat → Int → Bool → List (S62) → Option (Bool)
  | 0, _, _, _ => none
  | k + 1, x9, x84, x253000 => if x84 = true then (some false) else ((laws_heldDisk.f k x253000 1).bind fun t273 => (if t273 < 0 then (some false) else (if t273 = x9 then (some true) else (some false))))
end
def laws_FnExactFormatShelf.f (k : Nat) (l0 : List Int) : Option (Bool) := if (l0.length : Int) > 1048576 then (some true) else ((laws_toIntS.f k l0).bind fun t237 => ((spec_FormatShelf.f k t237).bind fun bt240 => ((laws_toIntS.f k l0).bind fun t245 => ((impl_FormatShelf.f k t245).bind fun bt248 => ((laws_eqDisk.f k bt248.1 bt240.1).bind fun t253 => (if t253 = true then (laws_FnExactFormatShelf.j0 k l0 bt240.2 t245 bt248.2 (bt248.2 != bt240.2) bt240.1 bt248.1) else (laws_FnExactFormatShelf.j0 k l0 bt240.2 t245 bt248.2 true bt240.1 bt248.1)))))))
theorem laws_FnExactFormatShelf.mono_l : ∀ k, (∀ y0 y1 y2 y3 y4 y5 y6, LeO (laws_FnExactFormatShelf.j0 k y0 y1 y2 y3 y4 y5 y6) (laws_FnExactFormatShelf.j0 (k + 1) y0 y1 y2 y3 y4 y5 y6)) ∧ (∀ y0 y1 y2 y3 y4, LeO (laws_FnExactFormatShelf.j1 k y0 y1 y2 y3 y4) (laws_FnExactFormatShelf.j1 (k + 1) y0 y1 y2 y3 y4)) ∧ (∀ y0 y1 y2, LeO (laws_FnExactFormatShelf.j2 k y0 y1 y2) (laws_FnExactFormatShelf.j2 (k + 1) y0 y1 y2))
  | 0 => ⟨fun _ _ _ _ _ _ _ r h => by simp [laws_FnExactFormatShelf.j0] at h, fun _ _ _ _ _ r h => by simp [laws_FnExactFormatShelf.j1] at h, fun _ _ _ r h => by simp [laws_FnExactFormatShelf.j2] at h⟩
  | k + 1 => by
    obtain ⟨ih0, ih1, ih2⟩ := laws_FnExactFormatShelf.mono_l k
    refine ⟨?_, ?_, ?_⟩
    · intro y0 y1 y2 y3 y4 y5 y6
      unfold laws_FnExactFormatShelf.j0
      repeat' first
      | (with_reducible exact ih0 _ _ _ _ _ _ _)
      | (with_reducible exact ih1 _ _ _ _ _)
      | (with_reducible exact ih2 _ _ _)
      | (with_reducible exact impl_FormatShelf.mono _ _)
      | (with_reducible exact laws_eqDisk.mono _ _ _)
      | (with_reducible exact laws_eqIntS.mono _ _ _)
      | (with_reducible exact laws_heldDisk.mono _ _ _)
      | (with_reducible exact laws_markDisk.mono _ _ _)
      | (with_reducible exact laws_markIntS.mono _ _ _)
      | (with_reducible exact laws_toIntS.mono _ _)
      | (with_reducible exact spec_FormatShelf.mono _ _)
      | (with_reducible exact LeO.refl _)
      | (with_reducible exact LeO.none _)
      | (with_reducible refine LeO.ite ?_ ?_)
      | (with_reducible refine LeO.bind ?_ (fun _ => ?_))
      | exact ih0 _ _ _ _ _ _ _
      | exact ih1 _ _ _ _ _
      | exact ih2 _ _ _
      | exact impl_FormatShelf.mono _ _
      | exact laws_eqDisk.mono _ _ _
      | exact laws_eqIntS.mono _ _ _
      | exact laws_heldDisk.mono _ _ _
      | exact laws_markDisk.mono _ _ _
      | exact laws_markIntS.mono _ _ _
      | exact laws_toIntS.mono _ _
      | exact spec_FormatShelf.mono _ _
      | exact LeO.none _
      | refine LeO.ite ?_ ?_
      | refine LeO.bind ?_ (fun _ => ?_)
    · intro y0 y1 y2 y3 y4
      unfold laws_FnExactFormatShelf.j1
      repeat' first
      | (with_reducible exact ih0 _ _ _ _ _ _ _)
      | (with_reducible exact ih1 _ _ _ _ _)
      | (with_reducible exact ih2 _ _ _)
      | (with_reducible exact impl_FormatShelf.mono _ _)
      | (with_reducible exact laws_eqDisk.mono _ _ _)
      | (with_reducible exact laws_eqIntS.mono _ _ _)
      | (with_reducible exact laws_heldDisk.mono _ _ _)
      | (with_reducible exact laws_markDisk.mono _ _ _)
      | (with_reducible exact laws_markIntS.mono _ _ _)
      | (with_reducible exact laws_toIntS.mono _ _)
      | (with_reducible exact spec_FormatShelf.mono _ _)
      | (with_reducible exact LeO.refl _)
      | (with_reducible exact LeO.none _)
      | (with_reducible refine LeO.ite ?_ ?_)
      | (with_reducible refine LeO.bind ?_ (fun _ => ?_))
      | exact ih0 _ _ _ _ _ _ _
      | exact ih1 _ _ _ _ _
      | exact ih2 _ _ _
      | exact impl_FormatShelf.mono _ _
      | exact laws_eqDisk.mono _ _ _
      | exact laws_eqIntS.mono _ _ _
      | exact laws_heldDisk.mono _ _ _
      | exact laws_markDisk.mono _ _ _
      | exact laws_markIntS.mono _ _ _
      | exact laws_toIntS.mono _ _
      | exact spec_FormatShelf.mono _ _
      | exact LeO.none _
      | refine LeO.ite ?_ ?_
      | refine LeO.bind ?_ (fun _ => ?_)
    · intro y0 y1 y2
      unfold laws_FnExactFormatShelf.j2
      repeat' first
      | (with_reducible exact ih0 _ _ _ _ _ _ _)
      | (with_reducible exact ih1 _ _ _ _ _)
      | (with_reducible exact ih2 _ _ _)
      | (with_reducible exact impl_FormatShelf.mono _ _)
      | (with_reducible exact laws_eqDisk.mono _ _ _)
      | (with_reducible exact laws_eqIntS.mono _ _ _)
      | (with_reducible exact laws_heldDisk.mono _ _ _)
      | (with_reducible exact laws_markDisk.mono _ _ _)
      | (with_reducible exact laws_markIntS.mono _ _ _)
      | (with_reducible exact laws_toIntS.mono _ _)
      | (with_reducible exact spec_FormatShelf.mono _ _)
      | (with_reducible exact LeO.refl _)
      | (with_reducible exact LeO.none _)
      | (with_reducible refine LeO.ite ?_ ?_)
      | (with_reducible refine LeO.bind ?_ (fun _ => ?_))
      | exact ih0 _ _ _ _ _ _ _
      | exact ih1 _ _ _ _ _
      | exact ih2 _ _ _
      | exact impl_FormatShelf.mono _ _
      | exact laws_eqDisk.mono _ _ _
      | exact laws_eqIntS.mono _ _ _
      | exact laws_heldDisk.mono _ _ _
      | exact laws_markDisk.mono _ _ _
      | exact laws_markIntS.mono _ _ _
      | exact laws_toIntS.mono _ _
      | exact spec_FormatShelf.mono _ _
      | exact LeO.none _
      | refine LeO.ite ?_ ?_
      | refine LeO.bind ?_ (fun _ => ?_)
theorem laws_FnExactFormatShelf.mono : ∀ a0 k, LeO (laws_FnExactFormatShelf.f k a0) (laws_FnExactFormatShelf.f (k + 1) a0) := by
  intro a0 k
  obtain ⟨ih0, ih1, ih2⟩ := laws_FnExactFormatShelf.mono_l k
  unfold laws_FnExactFormatShelf.f
  repeat' first
      | (with_reducible exact ih0 _ _ _ _ _ _ _)
      | (with_reducible exact ih1 _ _ _ _ _)
      | (with_reducible exact ih2 _ _ _)
      | (with_reducible exact impl_FormatShelf.mono _ _)
      | (with_reducible exact laws_eqDisk.mono _ _ _)
      | (with_reducible exact laws_eqIntS.mono _ _ _)
      | (with_reducible exact laws_heldDisk.mono _ _ _)
      | (with_reducible exact laws_markDisk.mono _ _ _)
      | (with_reducible exact laws_markIntS.mono _ _ _)
      | (with_reducible exact laws_toIntS.mono _ _)
      | (with_reducible exact spec_FormatShelf.mono _ _)
      | (with_reducible exact LeO.refl _)
      | (with_reducible exact LeO.none _)
      | (with_reducible refine LeO.ite ?_ ?_)
      | (with_reducible refine LeO.bind ?_ (fun _ => ?_))
      | exact ih0 _ _ _ _ _ _ _
      | exact ih1 _ _ _ _ _
      | exact ih2 _ _ _
      | exact impl_FormatShelf.mono _ _
      | exact laws_eqDisk.mono _ _ _
      | exact laws_eqIntS.mono _ _ _
      | exact laws_heldDisk.mono _ _ _
      | exact laws_markDisk.mono _ _ _
      | exact laws_markIntS.mono _ _ _
      | exact laws_toIntS.mono _ _
      | exact spec_FormatShelf.mono _ _
      | exact LeO.none _
      | refine LeO.ite ?_ ?_
      | refine LeO.bind ?_ (fun _ => ?_)
set_option maxHeartbeats 8000000 in
set_option maxRecDepth 100000 in
theorem laws_FnExactFormatShelf.calls (k : Nat) (A0 : Option Addr) (c0 : Nat) (l0 : List Int) (r : Bool) (w : World) (hr0 : Kd.C (Kd.int .i64) w A0 l0.length l0) (hc0 : l0.length ≤ c0) (h : laws_FnExactFormatShelf.f k l0 = some r) :
    Calls Tryd.prog 3 #[.slice A0 l0.length c0] w fun e w' => e = .returned (.bool r) ∧ Below w.heap.size w w' := by
  have hu25 := Tryd.underlying25
  have HR0 := Aside0.mk hr0
  have HC0 := Aside0.mk hc0
  clear hr0 hc0
  have HB := Aside0.mk (Below.refl w.heap.size w)
  have H : (if (l0.length : Int) > 1048576 then (some true) else ((laws_toIntS.f k l0).bind fun t237 => ((spec_FormatShelf.f k t237).bind fun bt240 => ((laws_toIntS.f k l0).bind fun t245 => ((impl_FormatShelf.f k t245).bind fun bt248 => ((laws_eqDisk.f k bt248.1 bt240.1).bind fun t253 => (if t253 = true then (laws_FnExactFormatShelf.j0 k l0 bt240.2 t245 bt248.2 (bt248.2 != bt240.2) bt240.1 bt248.1) else (laws_FnExactFormatShelf.j0 k l0 bt240.2 t245 bt248.2 true bt240.1 bt248.1)))))))) = some r := h
  clear h
  by_cases c2 : (l0.length : Int) > 1048576
  · rw [if_pos c2] at H
    have c2b0 : decide (1048576 < (l0.length : Int)) = true := decide_eq_true c2
    have c2b1 : decide (1048576 < l0.length) = true := decide_eq_true (by omega)
    clear c2
    obtain rfl := Option.some.inj H
    go_enter Tryd.func3, Tryd.ntmps3
    go_wp2
    go_ret
    exact ⟨by first | rfl | (simp [errW_none, errW_some] <;> rfl) | (simp [*, errW_none, errW_some] <;> rfl), by repeat (first | (with_reducible first | exact HB.out | apply below_alloc | apply pw_below_drewN | apply below_drew1) | exact HB.out)⟩
  · rw [if_neg c2] at H
    have c2b0 : decide (1048576 < (l0.length : Int)) = false := decide_eq_false c2
    have c2b1 : decide (1048576 < l0.length) = false := decide_eq_false (by omega)
    clear c2
    replace H := Option.bind_eq_some_iff.mp H
    obtain ⟨t237, A30, H⟩ := H
    replace H : ((spec_FormatShelf.f k t237).bind fun bt240 => ((laws_toIntS.f k l0).bind fun t245 => ((impl_FormatShelf.f k t245).bind fun bt248 => ((laws_eqDisk.f k bt248.1 bt240.1).bind fun t253 => (if t253 = true then (laws_FnExactFormatShelf.j0 k l0 bt240.2 t245 bt248.2 (bt248.2 != bt240.2) bt240.1 bt248.1) else (laws_FnExactFormatShelf.j0 k l0 bt240.2 t245 bt248.2 true bt240.1 bt248.1)))))) = some r := H
    have A3 := Aside0.mk A30
    clear A30
    replace H := Option.bind_eq_some_iff.mp H
    obtain ⟨⟨t240, t243⟩, A40, H⟩ := H
    replace H : ((laws_toIntS.f k l0).bind fun t245 => ((impl_FormatShelf.f k t245).bind fun bt248 => ((laws_eqDisk.f k bt248.1 t240).bind fun t253 => (if t253 = true then (laws_FnExactFormatShelf.j0 k l0 t243 t245 bt248.2 (bt248.2 != t243) t240 bt248.1) else (laws_FnExactFormatShelf.j0 k l0 t243 t245 bt248.2 true t240 bt248.1))))) = some r := H
    have A4 := Aside0.mk A40
    clear A40
    replace H := Option.bind_eq_some_iff.mp H
    obtain ⟨t245, A50, H⟩ := H
    replace H : ((impl_FormatShelf.f k t245).bind fun bt248 => ((laws_eqDisk.f k bt248.1 t240).bind fun t253 => (if t253 = true then (laws_FnExactFormatShelf.j0 k l0 t243 t245 bt248.2 (bt248.2 != t243) t240 bt248.1) else (laws_FnExactFormatShelf.j0 k l0 t243 t245 bt248.2 true t240 bt248.1)))) = some r := H
    have A5 := Aside0.mk A50
    clear A50
    replace H := Option.bind_eq_some_iff.mp H
    obtain ⟨⟨t248, t251⟩, A60, H⟩ := H
    replace H : ((laws_eqDisk.f k t248 t240).bind fun t253 => (if t253 = true then (laws_FnExactFormatShelf.j0 k l0 t243 t245 t251 (t251 != t243) t240 t248) else (laws_FnExactFormatShelf.j0 k l0 t243 t245 t251 true t240 t248))) = some r := H
    have A6 := Aside0.mk A60
    clear A60
    have HC7 := Aside0.mk H
    clear H
    go_enter Tryd.func3, Tryd.ntmps3
    go_upto_region 6 with (first | ((with_reducible refine gate_callee (f := 6) rfl ?_); refine goesL_ (some 18) rfl rfl Tryd.func6 (by kernel_rfl) rfl #[.slice A0 l0.length c0] rfl (by (try simp only [List.map_toArray, List.map_cons, List.map_nil]); first | done | rfl | (simp only [List.length_drop, List.length_take]; rfl)) ?_; (with_reducible refine (laws_toIntS.calls k _ _ l0 t237 _ ?side1 ?side2 A3.out).mono ?_); (case side1 => repeat (first | exact HR0.out | (with_reducible refine Kd.C_alloc ?_ _) | (with_reducible refine Kd.C_drewN ?_ _) | (with_reducible refine Kd.C_drew ?_))); (case side2 => exact HC0.out); rintro e w8 ⟨v238, rfl, ho0, hb⟩; refine ⟨_, rfl, ?_⟩; have n0_ := Aside0.mk (Kd.R_lower ho0 (below_size (by repeat (first | (with_reducible first | exact HB.out | apply below_alloc | apply pw_below_drewN | apply below_drew1) | exact HB.out)))); have n1_ := Aside0.mk (below_step (by repeat (first | (with_reducible first | exact HB.out | apply below_alloc | apply pw_below_drewN | apply below_drew1) | exact HB.out)) hb); clear HB; have HO239 := n0_; have HB := n1_; clear n0_ n1_; (try clear hb); (try clear hb2); (try clear hk); (try clear hi); (try clear ho0); obtain ⟨Ao9, co9, eo9⟩ := Kd.R_slice HO239.out; subst eo9) | ((with_reducible refine gate_callee (f := 5) rfl ?_); refine goesL_ (some 19) rfl rfl Tryd.func5 (by kernel_rfl) rfl #[.slice Ao9 t237.length co9] rfl (by (try simp only [List.map_toArray, List.map_cons, List.map_nil]); first | done | rfl | (simp only [List.length_drop, List.length_take]; rfl)) ?_; (with_reducible refine (spec_FormatShelf.calls k _ _ t237 t240 t243 _ ?side1 ?side2 A4.out).mono ?_); (case side1 => repeat (first | exact (Kd.R_reads' HO239.out).2.2 | (with_reducible refine Kd.C_alloc ?_ _) | (with_reducible refine Kd.C_drewN ?_ _) | (with_reducible refine Kd.C_drew ?_))); (case side2 => exact (Kd.R_reads' HO239.out).2.1); rintro e w10 ⟨v241, rfl, ho0, hb⟩; refine ⟨_, rfl, ?_⟩; have n0_ := Aside0.mk (Kd.R_below (by (with_reducible repeat (first | apply Kd.R_alloc | apply Kd.R_drewN | apply Kd.R_drew)); exact HO239.out) hb); have n1_ := Aside0.mk (Kd.R_lower ho0 (below_size (by repeat (first | (with_reducible first | exact HB.out | apply below_alloc | apply pw_below_drewN | apply below_drew1) | exact HB.out)))); have n2_ := Aside0.mk (below_step (by repeat (first | (with_reducible first | exact HB.out | apply below_alloc | apply pw_below_drewN | apply below_drew1) | exact HB.out)) hb); clear HO239; clear HB; have HO239 := n0_; have HO242 := n1_; have HB := n2_; clear n0_ n1_ n2_; (try clear hb); (try clear hb2); (try clear hk); (try clear hi); (try clear ho0)) | ((with_reducible refine gate_dst (N := 3) rfl ?_); refine box_event ?hg (N := 3) ?hd (cs := #[.slice none 0 0]) (t := 25) ?hr ?_; (case hd => rfl); (case hg => rfl); (case hr => first | (go_simp; done) | (go_simp; rfl)); intro gb244 hg w11 hbox hb; have n0_ := Aside0.mk (Kd.R_below (by (with_reducible repeat (first | apply Kd.R_alloc | apply Kd.R_drewN | apply Kd.R_drew)); exact HO239.out) hb); have n1_ := Aside0.mk (Kd.R_below (by (with_reducible repeat (first | apply Kd.R_alloc | apply Kd.R_drewN | apply Kd.R_drew)); exact HO242.out) hb); have n2_ := Aside0.mk (below_step (by repeat (first | (with_reducible first | exact HB.out | apply below_alloc | apply pw_below_drewN | apply below_drew1) | exact HB.out)) hb); have n3_ := Aside0.mk (hbox); have n5_ := Aside0.mk ((by rw [hg]; exact (below_size (by repeat (first | (with_reducible first | exact HB.out | apply below_alloc | apply pw_below_drewN | apply below_drew1) | exact HB.out))) : w.heap.size ≤ gb244)); clear HO239; clear HO242; clear HB; have HO239 := n0_; have HO242 := n1_; have HB := n2_; have BK244 := n3_; have GE244 := n5_; clear n0_ n1_ n2_ n3_ n5_; clear hb hbox hg; obtain ⟨Ao12, co12, eo12⟩ := Kd.R_slice HO242.out; subst eo12; have hcz13_0 : w11.cell? ⟨gb244, 0, none⟩ = some (.slice none 0 0) := (blk_cell BK244.out 0).trans rfl; have hfz13_0 := blk_frozen BK244.out 0) | ((with_reducible refine gate_callee (f := 6) rfl ?_); refine goesL_ (some 23) rfl rfl Tryd.func6 (by kernel_rfl) rfl #[.slice A0 l0.length c0] rfl (by (try simp only [List.map_toArray, List.map_cons, List.map_nil]); first | done | rfl | (simp only [List.length_drop, List.length_take]; rfl)) ?_; (with_reducible refine (laws_toIntS.calls k _ _ l0 t245 _ ?side1 ?side2 A5.out).mono ?_); (case side1 => exact Kd.C_below HR0.out (by repeat (first | (with_reducible first | exact HB.out | apply below_alloc | apply pw_below_drewN | apply below_drew1 | refine below_set ?_ GE244.out) | exact HB.out))); (case side2 => exact HC0.out); rintro e w14 ⟨v246, rfl, ho0, hb⟩; refine ⟨_, rfl, ?_⟩; have n1_ := Aside0.mk (Kd.R_below (by (with_reducible repeat (first | apply Kd.R_alloc | apply Kd.R_drewN | apply Kd.R_drew)); exact (Kd.R_mono (Kd.R_far (p := ⟨gb244, 0, none⟩) (Kd.R_types HO242.out BK244.out (by decide)) (fun _ hk => hk.2) (.slice Ao12 t240.length co12)) (fun _ h_ => h_.1))) hb); have n2_ := Aside0.mk (Kd.R_lower (Kd.R_new' ho0 (Kd.R_lt (by (with_reducible repeat (first | apply Kd.R_alloc | apply Kd.R_drewN | apply Kd.R_drew)); exact (Kd.R_mono (Kd.R_far (p := ⟨gb244, 0, none⟩) (Kd.R_types HO239.out BK244.out (by decide)) (fun _ hk => hk.2) (.slice Ao12 t240.length co12)) (fun _ h_ => h_.1))))) (below_size (by repeat (first | (with_reducible first | exact HB.out | apply below_alloc | apply pw_below_drewN | apply below_drew1 | refine below_set ?_ GE244.out) | exact HB.out)))); have n3_ := Aside0.mk (blk_below (g := gb244) (o := .cells #[.slice Ao12 t240.length co12] 25 (0, 0)) (by (with_reducible repeat (first | refine blk_drewN ?_ _ | refine blk_drew ?_ | refine blk_alloc ?_ _)); refine blk_put (cs := #[.slice none 0 0]) ?_ 0 _ rfl; (with_reducible repeat (first | refine blk_drewN ?_ _ | refine blk_drew ?_ | refine blk_alloc ?_ _)); exact BK244.out) hb); have n4_ := Aside0.mk (below_step (by repeat (first | (with_reducible first | exact HB.out | apply below_alloc | apply pw_below_drewN | apply below_drew1 | refine below_set ?_ GE244.out) | exact HB.out)) hb); clear HO239; clear HO242; clear BK244; clear HB; have HO242 := n1_; have HO247 := n2_; have BK244 := n3_; have HB := n4_; clear n1_ n2_ n3_ n4_; (try clear hb); (try clear hb2); (try clear hk); (try clear hi); (try clear ho0); obtain ⟨Ao15, co15, eo15⟩ := Kd.R_slice HO247.out; subst eo15) | ((with_reducible refine gate_callee (f := 7) rfl ?_); refine goesL_ (some 26) rfl rfl Tryd.func7 (by kernel_rfl) rfl #[.slice Ao15 t245.length co15] rfl (by (try simp only [List.map_toArray, List.map_cons, List.map_nil]); first | done | rfl | (simp only [List.length_drop, List.length_take]; rfl)) ?_; (with_reducible refine (impl_FormatShelf.calls k _ _ t245 t248 t251 _ ?side1 ?side2 A6.out).mono ?_); (case side1 => repeat (first | exact (Kd.R_reads' HO247.out).2.2 | (with_reducible refine Kd.C_alloc ?_ _) | (with_reducible refine Kd.C_drewN ?_ _) | (with_reducible refine Kd.C_drew ?_))); (case side2 => exact (Kd.R_reads' HO247.out).2.1); rintro e w16 ⟨v249, rfl, ho0, hb⟩; refine ⟨_, rfl, ?_⟩; have n1_ := Aside0.mk (Kd.R_elder' (by (with_reducible repeat (first | apply Kd.R_alloc | apply Kd.R_drewN | apply Kd.R_drew)); exact HO242.out) (Kd.R_base ho0) hb); have n2_ := Aside0.mk (Kd.R_below (by (with_reducible repeat (first | apply Kd.R_alloc | apply Kd.R_drewN | apply Kd.R_drew)); exact HO247.out) hb); have n3_ := Aside0.mk (Kd.R_lower (Kd.R_new' ho0 (Kd.R_lt (by (with_reducible repeat (first | apply Kd.R_alloc | apply Kd.R_drewN | apply Kd.R_drew)); exact HO242.out))) (below_size (by repeat (first | (with_reducible first | exact HB.out | apply below_alloc | apply pw_below_drewN | apply below_drew1 | refine below_set ?_ GE244.out) | exact HB.out)))); have n4_ := Aside0.mk (blk_below (g := gb244) (o := .cells #[.slice Ao12 t240.length co12] 25 (0, 0)) (by (with_reducible repeat (first | refine blk_drewN ?_ _ | refine blk_drew ?_ | refine blk_alloc ?_ _)); exact BK244.out) hb); have n5_ := Aside0.mk (below_step (by repeat (first | (with_reducible first | exact HB.out | apply below_alloc | apply pw_below_drewN | apply below_drew1 | refine below_set ?_ GE244.out) | exact HB.out)) hb); clear HO242; clear HO247; clear BK244; clear HB; have HO242 := n1_; have HO247 := n2_; have HO250 := n3_; have BK244 := n4_; have HB := n5_; clear n1_ n2_ n3_ n4_ n5_; (try clear hb); (try clear hb2); (try clear hk); (try clear hi); (try clear ho0)) | ((with_reducible refine gate_dst (N := 6) rfl ?_); refine box_event ?hg (N := 6) ?hd (cs := #[.slice none 0 0]) (t := 25) ?hr ?_; (case hd => rfl); (case hg => rfl); (case hr => first | (go_simp; done) | (go_simp; rfl)); intro gb252 hg w17 hbox hb; have n1_ := Aside0.mk (Kd.R_below (by (with_reducible repeat (first | apply Kd.R_alloc | apply Kd.R_drewN | apply Kd.R_drew)); exact HO242.out) hb); have n2_ := Aside0.mk (Kd.R_below (by (with_reducible repeat (first | apply Kd.R_alloc | apply Kd.R_drewN | apply Kd.R_drew)); exact HO247.out) hb); have n3_ := Aside0.mk (Kd.R_below (by (with_reducible repeat (first | apply Kd.R_alloc | apply Kd.R_drewN | apply Kd.R_drew)); exact HO250.out) hb); have n4_ := Aside0.mk (blk_below (g := gb244) (o := .cells #[.slice Ao12 t240.length co12] 25 (0, 0)) (by (with_reducible repeat (first | refine blk_drewN ?_ _ | refine blk_drew ?_ | refine blk_alloc ?_ _)); exact BK244.out) hb); have n5_ := Aside0.mk (below_step (by repeat (first | (with_reducible first | exact HB.out | apply below_alloc | apply pw_below_drewN | apply below_drew1 | refine below_set ?_ GE244.out) | exact HB.out)) hb); have n6_ := Aside0.mk (hbox); have n8_ := Aside0.mk ((by rw [hg]; exact (below_size (by repeat (first | (with_reducible first | exact HB.out | apply below_alloc | apply pw_below_drewN | apply below_drew1 | refine below_set ?_ GE244.out) | exact HB.out))) : w.heap.size ≤ gb252)); have n9_ := Aside0.mk ((by rw [hg]; exact Nat.ne_of_lt (blk_lt (g := gb244) (o := .cells #[.slice Ao12 t240.length co12] 25 (0, 0)) (by (with_reducible repeat (first | refine blk_drewN ?_ _ | refine blk_drew ?_ | refine blk_alloc ?_ _)); exact BK244.out)) : gb244 ≠ gb252)); have n10_ := Aside0.mk ((by rw [hg]; exact Nat.ne_of_gt (blk_lt (g := gb244) (o := .cells #[.slice Ao12 t240.length co12] 25 (0, 0)) (by (with_reducible repeat (first | refine blk_drewN ?_ _ | refine blk_drew ?_ | refine blk_alloc ?_ _)); exact BK244.out)) : gb252 ≠ gb244)); clear HO242; clear HO247; clear HO250; clear BK244; clear HB; have HO242 := n1_; have HO247 := n2_; have HO250 := n3_; have BK244 := n4_; have HB := n5_; have BK252 := n6_; have GE252 := n8_; have NB244_252 := n9_; have NB252_244 := n10_; clear n1_ n2_ n3_ n4_ n5_ n6_ n8_ n9_ n10_; clear hb hbox hg; obtain ⟨Ao18, co18, eo18⟩ := Kd.R_slice HO250.out; subst eo18; have hnb19 := NB252_244.out; have hnc19 := NB244_252.out; have hcz20_0 : w17.cell? ⟨gb252, 0, none⟩ = some (.slice none 0 0) := (blk_cell BK252.out 0).trans rfl; have hfz20_0 := blk_frozen BK252.out 0))
    (try simp only [Act.put, List.setIfInBounds_toArray, List.set_cons_zero, List.set_cons_succ])
    go_cut [37] (fun v37 wc => ∃ (kq : Nat) (x37_6 : Bool), v37 = .bool x37_6 ∧ Aside0 (laws_FnExactFormatShelf.j0 kq l0 t243 t245 t251 x37_6 t240 t248 = some r) ∧ Aside0 (kq ≤ k) ∧ Aside0 (Kd.R (Kd.int .i64) 3 wc w.heap.size (fun _ => True) (.slice Ao15 t245.length co15) t245) ∧ Aside0 (Kd.R k62 62 wc w.heap.size (fun k_ => some k_ ≠ ((.slice Ao18 t248.length co18) : Value).ownBlock) (.slice Ao12 t240.length co12) t240) ∧ Aside0 (Kd.R k62 62 wc w.heap.size (fun k_ => some k_ ≠ ((.slice Ao12 t240.length co12) : Value).ownBlock) (.slice Ao18 t248.length co18) t248) ∧ Aside0 (wc.heap[gb244]? = some (.cells #[(.slice Ao12 t240.length co12)] 25 (0, 0))) ∧ Aside0 (wc.heap[gb252]? = some (.cells #[(.slice Ao18 t248.length co18)] 25 (0, 0))) ∧ Aside0 (Below w.heap.size w wc))
    case first =>
      have H := HC7.out
      clear HC7
      replace H := Option.bind_eq_some_iff.mp H
      obtain ⟨t253, A210, H⟩ := H
      replace H : (if t253 = true then (laws_FnExactFormatShelf.j0 k l0 t243 t245 t251 (t251 != t243) t240 t248) else (laws_FnExactFormatShelf.j0 k l0 t243 t245 t251 true t240 t248)) = some r := H
      have A21 := Aside0.mk A210
      clear A210
      by_cases c22 : t253 = true
      · subst c22
        have H1 : (laws_FnExactFormatShelf.j0 k l0 t243 t245 t251 (t251 != t243) t240 t248) = some r := by rw [if_pos rfl] at H; exact H
        clear H
        have H := H1
        clear H1
        have H' := Aside0.mk H
        clear H
        have hnb23 := NB252_244.out
        have hnc23 := NB244_252.out
        have hcz24_0 : w17.cell? ⟨gb252, 0, none⟩ = some (.slice none 0 0) := (blk_cell BK252.out 0).trans rfl
        have hfz24_0 := blk_frozen BK252.out 0
        have hcz25_0 : w17.cell? ⟨gb244, 0, none⟩ = some (.slice Ao12 t240.length co12) := (blk_cell BK244.out 0).trans rfl
        have hfz25_0 := blk_frozen BK244.out 0
        go_wp2_with (first | ((with_reducible refine gate_callee (f := 8) rfl ?_); refine goesL_ (some 31) rfl rfl Tryd.func8 (by kernel_rfl) rfl #[.agg #[.slice Ao18 t248.length co18], .agg #[.slice Ao12 t240.length co12]] rfl (by (try simp only [List.map_toArray, List.map_cons, List.map_nil]); first | done | rfl | (simp only [List.length_drop, List.length_take]; rfl)) ?_; (with_reducible refine (laws_eqDisk.calls k _ _ t248 _ _ t240 true _ ?side1 ?side2 ?side3 ?side4 A21.out).mono ?_); (case side1 => refine (Kd.R_reads' (e := 62) (base := w.heap.size) (ok := fun k_ => (True ∧ some k_ ≠ (.slice Ao12 t240.length co12 : Value).ownBlock)) (n := t248.length) (c := co18) ?_).2.2; exact (by (with_reducible repeat (first | apply Kd.R_alloc | apply Kd.R_drewN | apply Kd.R_drew)); exact (Kd.R_mono (Kd.R_far (p := ⟨gb252, 0, none⟩) (Kd.R_types HO250.out BK252.out (by decide)) (fun _ hk => hk.2) (.slice Ao18 t248.length co18)) (fun _ h_ => h_.1)))); (case side2 => exact (Kd.R_reads' HO250.out).2.1); (case side3 => refine (Kd.R_reads' (e := 62) (base := w.heap.size) (ok := fun k_ => (True ∧ some k_ ≠ (.slice Ao18 t248.length co18 : Value).ownBlock)) (n := t240.length) (c := co12) ?_).2.2; exact (by (with_reducible repeat (first | apply Kd.R_alloc | apply Kd.R_drewN | apply Kd.R_drew)); exact (Kd.R_mono (Kd.R_far (p := ⟨gb252, 0, none⟩) (Kd.R_types HO242.out BK252.out (by decide)) (fun _ hk => hk.2) (.slice Ao18 t248.length co18)) (fun _ h_ => h_.1)))); (case side4 => exact (Kd.R_reads' HO242.out).2.1); rintro e w26 ⟨rfl, hb⟩; refine ⟨_, rfl, ?_⟩; have n1_ := Aside0.mk (Kd.R_below (by (with_reducible repeat (first | apply Kd.R_alloc | apply Kd.R_drewN | apply Kd.R_drew)); exact (Kd.R_mono (Kd.R_far (p := ⟨gb252, 0, none⟩) (Kd.R_types HO242.out BK252.out (by decide)) (fun _ hk => hk.2) (.slice Ao18 t248.length co18)) (fun _ h_ => h_.1))) hb); have n2_ := Aside0.mk (Kd.R_below (by (with_reducible repeat (first | apply Kd.R_alloc | apply Kd.R_drewN | apply Kd.R_drew)); exact (Kd.R_mono (Kd.R_far (p := ⟨gb252, 0, none⟩) (Kd.R_types HO247.out BK252.out (by decide)) (fun _ hk => hk.2) (.slice Ao18 t248.length co18)) (fun _ h_ => h_.1))) hb); have n3_ := Aside0.mk (Kd.R_below (by (with_reducible repeat (first | apply Kd.R_alloc | apply Kd.R_drewN | apply Kd.R_drew)); exact (Kd.R_mono (Kd.R_far (p := ⟨gb252, 0, none⟩) (Kd.R_types HO250.out BK252.out (by decide)) (fun _ hk => hk.2) (.slice Ao18 t248.length co18)) (fun _ h_ => h_.1))) hb); have n4_ := Aside0.mk (blk_below (g := gb244) (o := .cells #[.slice Ao12 t240.length co12] 25 (0, 0)) (by (with_reducible repeat (first | refine blk_drewN ?_ _ | refine blk_drew ?_ | refine blk_alloc ?_ _)); refine blk_far ?_ NB244_252.out _; (with_reducible repeat (first | refine blk_drewN ?_ _ | refine blk_drew ?_ | refine blk_alloc ?_ _)); exact BK244.out) hb); have n5_ := Aside0.mk (blk_below (g := gb252) (o := .cells #[.slice Ao18 t248.length co18] 25 (0, 0)) (by (with_reducible repeat (first | refine blk_drewN ?_ _ | refine blk_drew ?_ | refine blk_alloc ?_ _)); refine blk_put (cs := #[.slice none 0 0]) ?_ 0 _ rfl; (with_reducible repeat (first | refine blk_drewN ?_ _ | refine blk_drew ?_ | refine blk_alloc ?_ _)); exact BK252.out) hb); have n6_ := Aside0.mk (below_step (by repeat (first | (with_reducible first | exact HB.out | apply below_alloc | apply pw_below_drewN | apply below_drew1 | refine below_set ?_ GE244.out | refine below_set ?_ GE252.out) | exact HB.out)) hb); clear HO242; clear HO247; clear HO250; clear BK244; clear BK252; clear HB; have HO242 := n1_; have HO247 := n2_; have HO250 := n3_; have BK244 := n4_; have BK252 := n5_; have HB := n6_; clear n1_ n2_ n3_ n4_ n5_ n6_; (try clear hb); (try clear hb2); (try clear hk); (try clear hi)))
        go_meet
        case rel => exact ⟨_, ((t251 != t243)), (by first | rfl | (simp; done) | (simp [*]; done)), H', ⟨by first | omega | exact Nat.le_refl _⟩, ⟨by (with_reducible repeat (first | apply Kd.R_alloc | apply Kd.R_drewN | apply Kd.R_drew)); exact Kd.R_mono HO247.out (fun _ hk => trivial)⟩, ⟨by (with_reducible repeat (first | apply Kd.R_alloc | apply Kd.R_drewN | apply Kd.R_drew)); exact Kd.R_mono HO242.out (fun _ hk => hk.2)⟩, ⟨by (with_reducible repeat (first | apply Kd.R_alloc | apply Kd.R_drewN | apply Kd.R_drew)); exact Kd.R_mono HO250.out (fun _ hk => hk.2)⟩, ⟨by (with_reducible repeat (first | refine blk_drewN ?_ _ | refine blk_drew ?_ | refine blk_alloc ?_ _)); exact BK244.out⟩, ⟨by (with_reducible repeat (first | refine blk_drewN ?_ _ | refine blk_drew ?_ | refine blk_alloc ?_ _)); exact BK252.out⟩, ⟨by repeat (first | (with_reducible first | exact HB.out | apply below_alloc | apply pw_below_drewN | apply below_drew1 | refine below_set ?_ GE244.out | refine below_set ?_ GE252.out) | exact HB.out)⟩⟩
      · replace c22 := Bool.eq_false_iff.mpr c22
        subst c22
        have H1 : (laws_FnExactFormatShelf.j0 k l0 t243 t245 t251 true t240 t248) = some r := by rw [if_neg (show ¬ (false = true) by decide)] at H; exact H
        clear H
        have H := H1
        clear H1
        have H' := Aside0.mk H
        clear H
        have hnb27 := NB252_244.out
        have hnc27 := NB244_252.out
        have hcz28_0 : w17.cell? ⟨gb252, 0, none⟩ = some (.slice none 0 0) := (blk_cell BK252.out 0).trans rfl
        have hfz28_0 := blk_frozen BK252.out 0
        have hcz29_0 : w17.cell? ⟨gb244, 0, none⟩ = some (.slice Ao12 t240.length co12) := (blk_cell BK244.out 0).trans rfl
        have hfz29_0 := blk_frozen BK244.out 0
        go_wp2_with (first | ((with_reducible refine gate_callee (f := 8) rfl ?_); refine goesL_ (some 31) rfl rfl Tryd.func8 (by kernel_rfl) rfl #[.agg #[.slice Ao18 t248.length co18], .agg #[.slice Ao12 t240.length co12]] rfl (by (try simp only [List.map_toArray, List.map_cons, List.map_nil]); first | done | rfl | (simp only [List.length_drop, List.length_take]; rfl)) ?_; (with_reducible refine (laws_eqDisk.calls k _ _ t248 _ _ t240 false _ ?side1 ?side2 ?side3 ?side4 A21.out).mono ?_); (case side1 => refine (Kd.R_reads' (e := 62) (base := w.heap.size) (ok := fun k_ => (True ∧ some k_ ≠ (.slice Ao12 t240.length co12 : Value).ownBlock)) (n := t248.length) (c := co18) ?_).2.2; exact (by (with_reducible repeat (first | apply Kd.R_alloc | apply Kd.R_drewN | apply Kd.R_drew)); exact (Kd.R_mono (Kd.R_far (p := ⟨gb252, 0, none⟩) (Kd.R_types HO250.out BK252.out (by decide)) (fun _ hk => hk.2) (.slice Ao18 t248.length co18)) (fun _ h_ => h_.1)))); (case side2 => exact (Kd.R_reads' HO250.out).2.1); (case side3 => refine (Kd.R_reads' (e := 62) (base := w.heap.size) (ok := fun k_ => (True ∧ some k_ ≠ (.slice Ao18 t248.length co18 : Value).ownBlock)) (n := t240.length) (c := co12) ?_).2.2; exact (by (with_reducible repeat (first | apply Kd.R_alloc | apply Kd.R_drewN | apply Kd.R_drew)); exact (Kd.R_mono (Kd.R_far (p := ⟨gb252, 0, none⟩) (Kd.R_types HO242.out BK252.out (by decide)) (fun _ hk => hk.2) (.slice Ao18 t248.length co18)) (fun _ h_ => h_.1)))); (case side4 => exact (Kd.R_reads' HO242.out).2.1); rintro e w30 ⟨rfl, hb⟩; refine ⟨_, rfl, ?_⟩; have n1_ := Aside0.mk (Kd.R_below (by (with_reducible repeat (first | apply Kd.R_alloc | apply Kd.R_drewN | apply Kd.R_drew)); exact (Kd.R_mono (Kd.R_far (p := ⟨gb252, 0, none⟩) (Kd.R_types HO242.out BK252.out (by decide)) (fun _ hk => hk.2) (.slice Ao18 t248.length co18)) (fun _ h_ => h_.1))) hb); have n2_ := Aside0.mk (Kd.R_below (by (with_reducible repeat (first | apply Kd.R_alloc | apply Kd.R_drewN | apply Kd.R_drew)); exact (Kd.R_mono (Kd.R_far (p := ⟨gb252, 0, none⟩) (Kd.R_types HO247.out BK252.out (by decide)) (fun _ hk => hk.2) (.slice Ao18 t248.length co18)) (fun _ h_ => h_.1))) hb); have n3_ := Aside0.mk (Kd.R_below (by (with_reducible repeat (first | apply Kd.R_alloc | apply Kd.R_drewN | apply Kd.R_drew)); exact (Kd.R_mono (Kd.R_far (p := ⟨gb252, 0, none⟩) (Kd.R_types HO250.out BK252.out (by decide)) (fun _ hk => hk.2) (.slice Ao18 t248.length co18)) (fun _ h_ => h_.1))) hb); have n4_ := Aside0.mk (blk_below (g := gb244) (o := .cells #[.slice Ao12 t240.length co12] 25 (0, 0)) (by (with_reducible repeat (first | refine blk_drewN ?_ _ | refine blk_drew ?_ | refine blk_alloc ?_ _)); refine blk_far ?_ NB244_252.out _; (with_reducible repeat (first | refine blk_drewN ?_ _ | refine blk_drew ?_ | refine blk_alloc ?_ _)); exact BK244.out) hb); have n5_ := Aside0.mk (blk_below (g := gb252) (o := .cells #[.slice Ao18 t248.length co18] 25 (0, 0)) (by (with_reducible repeat (first | refine blk_drewN ?_ _ | refine blk_drew ?_ | refine blk_alloc ?_ _)); refine blk_put (cs := #[.slice none 0 0]) ?_ 0 _ rfl; (with_reducible repeat (first | refine blk_drewN ?_ _ | refine blk_drew ?_ | refine blk_alloc ?_ _)); exact BK252.out) hb); have n6_ := Aside0.mk (below_step (by repeat (first | (with_reducible first | exact HB.out | apply below_alloc | apply pw_below_drewN | apply below_drew1 | refine below_set ?_ GE244.out | refine below_set ?_ GE252.out) | exact HB.out)) hb); clear HO242; clear HO247; clear HO250; clear BK244; clear BK252; clear HB; have HO242 := n1_; have HO247 := n2_; have HO250 := n3_; have BK244 := n4_; have BK252 := n5_; have HB := n6_; clear n1_ n2_ n3_ n4_ n5_ n6_; (try clear hb); (try clear hb2); (try clear hk); (try clear hi)))
        go_meet
        case rel => exact ⟨_, (true), (by first | rfl | (simp; done) | (simp [*]; done)), H', ⟨by first | omega | exact Nat.le_refl _⟩, ⟨by (with_reducible repeat (first | apply Kd.R_alloc | apply Kd.R_drewN | apply Kd.R_drew)); exact Kd.R_mono HO247.out (fun _ hk => trivial)⟩, ⟨by (with_reducible repeat (first | apply Kd.R_alloc | apply Kd.R_drewN | apply Kd.R_drew)); exact Kd.R_mono HO242.out (fun _ hk => hk.2)⟩, ⟨by (with_reducible repeat (first | apply Kd.R_alloc | apply Kd.R_drewN | apply Kd.R_drew)); exact Kd.R_mono HO250.out (fun _ hk => hk.2)⟩, ⟨by (with_reducible repeat (first | refine blk_drewN ?_ _ | refine blk_drew ?_ | refine blk_alloc ?_ _)); exact BK244.out⟩, ⟨by (with_reducible repeat (first | refine blk_drewN ?_ _ | refine blk_drew ?_ | refine blk_alloc ?_ _)); exact BK252.out⟩, ⟨by repeat (first | (with_reducible first | exact HB.out | apply below_alloc | apply pw_below_drewN | apply below_drew1 | refine below_set ?_ GE244.out | refine below_set ?_ GE252.out) | exact HB.out)⟩⟩
    case rest =>
      clear HC7
      try clear c1
      try clear c2
      try clear c2b0
      try clear c2b1
      try clear p2
      try clear c3
      try clear c5
      try clear c6
      try clear c7
      try clear c8
      try clear c19
      try clear c22
      try clear c23
      try clear c27
      try clear hcz13_0
      try clear hcz20_0
      try clear hcz24_0
      try clear hcz25_0
      try clear hcz28_0
      try clear hcz29_0
      try clear hfz13_0
      try clear hfz20_0
      try clear hfz24_0
      try clear hfz25_0
      try clear hfz28_0
      try clear hfz29_0
      obtain ⟨kq, x37_6, rfl, HA, HJ6, HO_5, HO_245000, HO_253000, BK244, BK252, HB⟩ := hcut
      cases kq with
      | zero => exact absurd HA.out (by simp [laws_FnExactFormatShelf.j0])
      | succ kj6 =>
        have H := HA.out
        clear HA
        simp only [laws_FnExactFormatShelf.j0] at H
        by_cases c31 : x37_6 = true
        · subst c31
          have H1 : (some false) = some r := by rw [if_pos rfl] at H; exact H
          clear H
          have H := H1
          clear H1
          obtain rfl := Option.some.inj H
          go_wp2
          go_ret
          exact ⟨by first | rfl | (simp [errW_none, errW_some] <;> rfl) | (simp [*, errW_none, errW_some] <;> rfl), by repeat (first | (with_reducible first | exact HB.out | apply below_alloc | apply pw_below_drewN | apply below_drew1 | refine below_set ?_ GE244.out | refine below_set ?_ GE252.out) | exact HB.out)⟩
        · replace c31 := Bool.eq_false_iff.mpr c31
          subst c31
          have H1 : ((laws_toIntS.f kj6 l0).bind fun t254 => ((laws_eqIntS.f kj6 t245 t254).bind fun t257 => (if t257 = true then ((laws_markIntS.f kj6 t245 1).bind fun bt258 => (if bt258.1 < 0 then (laws_FnExactFormatShelf.j1 kj6 l0 t243 true t240 t248) else ((laws_eqDisk.f kj6 t248 t240).bind fun t260 => (if t260 = true then (laws_FnExactFormatShelf.j1 kj6 l0 t243 (t251 != t243) t240 t248) else (laws_FnExactFormatShelf.j1 kj6 l0 t243 true t240 t248))))) else (some false)))) = some r := by rw [if_neg (show ¬ (false = true) by decide)] at H; exact H
          clear H
          have H := H1
          clear H1
          replace H := Option.bind_eq_some_iff.mp H
          obtain ⟨t254, A320, H⟩ := H
          replace H : ((laws_eqIntS.f kj6 t245 t254).bind fun t257 => (if t257 = true then ((laws_markIntS.f kj6 t245 1).bind fun bt258 => (if bt258.1 < 0 then (laws_FnExactFormatShelf.j1 kj6 l0 t243 true t240 t248) else ((laws_eqDisk.f kj6 t248 t240).bind fun t260 => (if t260 = true then (laws_FnExactFormatShelf.j1 kj6 l0 t243 (t251 != t243) t240 t248) else (laws_FnExactFormatShelf.j1 kj6 l0 t243 true t240 t248))))) else (some false))) = some r := H
          have A32 := Aside0.mk A320
          clear A320
          replace H := Option.bind_eq_some_iff.mp H
          obtain ⟨t257, A330, H⟩ := H
          replace H : (if t257 = true then ((laws_markIntS.f kj6 t245 1).bind fun bt258 => (if bt258.1 < 0 then (laws_FnExactFormatShelf.j1 kj6 l0 t243 true t240 t248) else ((laws_eqDisk.f kj6 t248 t240).bind fun t260 => (if t260 = true then (laws_FnExactFormatShelf.j1 kj6 l0 t243 (t251 != t243) t240 t248) else (laws_FnExactFormatShelf.j1 kj6 l0 t243 true t240 t248))))) else (some false)) = some r := H
          have A33 := Aside0.mk A330
          clear A330
          have HC34 := Aside0.mk H
          clear H
          go_upto_if 42 with (first | ((with_reducible refine gate_callee (f := 6) rfl ?_); refine goesL_ (some 40) rfl rfl Tryd.func6 (by kernel_rfl) rfl #[.slice A0 l0.length c0] rfl (by (try simp only [List.map_toArray, List.map_cons, List.map_nil]); first | done | rfl | (simp only [List.length_drop, List.length_take]; rfl)) ?_; (with_reducible refine (laws_toIntS.calls kj6 _ _ l0 t254 _ ?side1 ?side2 A32.out).mono ?_); (case side1 => repeat (first | exact (Kd.C_below HR0.out HB.out) | (with_reducible refine Kd.C_alloc ?_ _) | (with_reducible refine Kd.C_drewN ?_ _) | (with_reducible refine Kd.C_drew ?_))); (case side2 => exact HC0.out); rintro e w35 ⟨v255, rfl, ho0, hb⟩; refine ⟨_, rfl, ?_⟩; have n0_ := Aside0.mk (Kd.R_elder' (by (with_reducible repeat (first | apply Kd.R_alloc | apply Kd.R_drewN | apply Kd.R_drew)); exact HO_5.out) (Kd.R_base ho0) hb); have n1_ := Aside0.mk (Kd.R_below (by (with_reducible repeat (first | apply Kd.R_alloc | apply Kd.R_drewN | apply Kd.R_drew)); exact HO_245000.out) hb); have n2_ := Aside0.mk (Kd.R_below (by (with_reducible repeat (first | apply Kd.R_alloc | apply Kd.R_drewN | apply Kd.R_drew)); exact HO_253000.out) hb); have n3_ := Aside0.mk (Kd.R_lower (Kd.R_new' ho0 (Kd.R_lt (by (with_reducible repeat (first | apply Kd.R_alloc | apply Kd.R_drewN | apply Kd.R_drew)); exact HO_5.out))) (below_size (by repeat (first | (with_reducible first | exact HB.out | apply below_alloc | apply pw_below_drewN | apply below_drew1 | refine below_set ?_ GE244.out | refine below_set ?_ GE252.out) | exact HB.out)))); have n4_ := Aside0.mk (blk_below (g := gb244) (o := .cells #[.slice Ao12 t240.length co12] 25 (0, 0)) (by (with_reducible repeat (first | refine blk_drewN ?_ _ | refine blk_drew ?_ | refine blk_alloc ?_ _)); exact BK244.out) hb); have n5_ := Aside0.mk (blk_below (g := gb252) (o := .cells #[.slice Ao18 t248.length co18] 25 (0, 0)) (by (with_reducible repeat (first | refine blk_drewN ?_ _ | refine blk_drew ?_ | refine blk_alloc ?_ _)); exact BK252.out) hb); have n6_ := Aside0.mk (below_step (by repeat (first | (with_reducible first | exact HB.out | apply below_alloc | apply pw_below_drewN | apply below_drew1 | refine below_set ?_ GE244.out | refine below_set ?_ GE252.out) | exact HB.out)) hb); clear HO_5; clear HO_245000; clear HO_253000; clear BK244; clear BK252; clear HB; have HO_5 := n0_; have HO_245000 := n1_; have HO_253000 := n2_; have HO256 := n3_; have BK244 := n4_; have BK252 := n5_; have HB := n6_; clear n0_ n1_ n2_ n3_ n4_ n5_ n6_; (try clear hb); (try clear hb2); (try clear hk); (try clear hi); (try clear ho0); obtain ⟨Ao36, co36, eo36⟩ := Kd.R_slice HO256.out; subst eo36) | ((with_reducible refine gate_callee (f := 9) rfl ?_); refine goesL_ (some 41) rfl rfl Tryd.func9 (by kernel_rfl) rfl #[.slice Ao15 t245.length co15, .slice Ao36 t254.length co36] rfl (by (try simp only [List.map_toArray, List.map_cons, List.map_nil]); first | done | rfl | (simp only [List.length_drop, List.length_take]; rfl)) ?_; (with_reducible refine (laws_eqIntS.calls kj6 _ _ t245 _ _ t254 t257 _ ?side1 ?side2 ?side3 ?side4 A33.out).mono ?_); (case side1 => repeat (first | exact (Kd.R_reads' HO_5.out).2.2 | (with_reducible refine Kd.C_alloc ?_ _) | (with_reducible refine Kd.C_drewN ?_ _) | (with_reducible refine Kd.C_drew ?_))); (case side2 => exact (Kd.R_reads' HO_5.out).2.1); (case side3 => repeat (first | exact (Kd.R_reads' HO256.out).2.2 | (with_reducible refine Kd.C_alloc ?_ _) | (with_reducible refine Kd.C_drewN ?_ _) | (with_reducible refine Kd.C_drew ?_))); (case side4 => exact (Kd.R_reads' HO256.out).2.1); rintro e w' ⟨rfl, ⟨nd, rfl⟩⟩; refine ⟨_, rfl, ?_⟩))
          have H := HC34.out
          clear HC34
          by_cases c37 : t257 = true
          · subst c37
            have H1 : ((laws_markIntS.f kj6 t245 1).bind fun bt258 => (if bt258.1 < 0 then (laws_FnExactFormatShelf.j1 kj6 l0 t243 true t240 t248) else ((laws_eqDisk.f kj6 t248 t240).bind fun t260 => (if t260 = true then (laws_FnExactFormatShelf.j1 kj6 l0 t243 (t251 != t243) t240 t248) else (laws_FnExactFormatShelf.j1 kj6 l0 t243 true t240 t248))))) = some r := by rw [if_pos rfl] at H; exact H
            clear H
            have H := H1
            clear H1
            replace H := Option.bind_eq_some_iff.mp H
            obtain ⟨⟨t258, t259⟩, A380, H⟩ := H
            replace H : (if t258 < 0 then (laws_FnExactFormatShelf.j1 kj6 l0 t243 true t240 t248) else ((laws_eqDisk.f kj6 t248 t240).bind fun t260 => (if t260 = true then (laws_FnExactFormatShelf.j1 kj6 l0 t243 (t251 != t243) t240 t248) else (laws_FnExactFormatShelf.j1 kj6 l0 t243 true t240 t248)))) = some r := H
            have A38 := Aside0.mk A380
            clear A380
            have HC39 := Aside0.mk H
            clear H
            go_upto_region 12 with (first | ((with_reducible refine gate_callee (f := 10) rfl ?_); refine goesL_ (some 45) rfl rfl Tryd.func10 (by kernel_rfl) rfl #[.slice Ao15 t245.length co15, .int .i64 1] rfl (by (try simp only [List.map_toArray, List.map_cons, List.map_nil]); first | done | rfl | (simp only [List.length_drop, List.length_take]; rfl)) ?_; (with_reducible refine (laws_markIntS.calls kj6 (fun k_ => some k_ = (.slice Ao15 t245.length co15 : Value).ownBlock) (.slice Ao15 t245.length co15) t245 1 t258 t259 w _ ?side1 ?side2 A38.out).mono ?_); (case side1 => repeat (first | (with_reducible first | exact HB.out | apply below_alloc | apply pw_below_drewN | apply below_drew1 | refine below_set ?_ GE244.out | refine below_set ?_ GE252.out) | exact HB.out)); (case side2 => exact Kd.R_tight rfl HO_5.out); rintro e w40 ⟨rfl, hy0, hb, hkp⟩; refine ⟨_, rfl, ?_⟩; have n1_ := Aside0.mk (Kd.R_mono (ok' := fun k_ => some k_ ≠ (.slice Ao18 t248.length co18 : Value).ownBlock) (Kd.R_keptB ((Kd.R_apart' HO_245000.out (Kd.R_typed HO_5.out) (by decide))) hkp (fun k_ hk_ hs_ => (hk_.2) hs_)) (fun k_ hk_ => hk_.1.1)); have n2_ := Aside0.mk (Kd.R_mono (ok' := fun k_ => some k_ ≠ (.slice Ao12 t240.length co12 : Value).ownBlock) (Kd.R_keptB ((Kd.R_apart' HO_253000.out (Kd.R_typed HO_5.out) (by decide))) hkp (fun k_ hk_ hs_ => (hk_.2) hs_)) (fun k_ hk_ => hk_.1.1)); have n3_ := Aside0.mk (blk_kept (by (with_reducible repeat (first | refine blk_drewN ?_ _ | refine blk_drew ?_ | refine blk_alloc ?_ _)); exact BK244.out) hkp (fun hs_ => (fun e_ => (Kd.R_ne HO_5.out BK244.out (by decide)) e_) hs_)); have n4_ := Aside0.mk (blk_kept (by (with_reducible repeat (first | refine blk_drewN ?_ _ | refine blk_drew ?_ | refine blk_alloc ?_ _)); exact BK252.out) hkp (fun hs_ => (fun e_ => (Kd.R_ne HO_5.out BK252.out (by decide)) e_) hs_)); have n6_ := Aside0.mk (hb); clear HO_5; clear HO_245000; clear HO_253000; clear BK244; clear BK252; clear HO256; clear HB; have HO_245000 := n1_; have HO_253000 := n2_; have BK244 := n3_; have BK252 := n4_; have HB := n6_; clear n1_ n2_ n3_ n4_ n6_; (try clear hb); (try clear hkp); (try clear hy0)))
            (try simp only [Act.put, List.setIfInBounds_toArray, List.set_cons_zero, List.set_cons_succ])
            go_cut [58] (fun v58 wc => ∃ (kq : Nat) (x58_38 : Bool), v58 = .bool x58_38 ∧ Aside0 (laws_FnExactFormatShelf.j1 kq l0 t243 x58_38 t240 t248 = some r) ∧ Aside0 (kq ≤ kj6) ∧ Aside0 (Kd.R k62 62 wc w.heap.size (fun k_ => some k_ ≠ ((.slice Ao18 t248.length co18) : Value).ownBlock) (.slice Ao12 t240.length co12) t240) ∧ Aside0 (Kd.R k62 62 wc w.heap.size (fun k_ => some k_ ≠ ((.slice Ao12 t240.length co12) : Value).ownBlock) (.slice Ao18 t248.length co18) t248) ∧ Aside0 (wc.heap[gb244]? = some (.cells #[(.slice Ao12 t240.length co12)] 25 (0, 0))) ∧ Aside0 (wc.heap[gb252]? = some (.cells #[(.slice Ao18 t248.length co18)] 25 (0, 0))) ∧ Aside0 (Below w.heap.size w wc))
            case first =>
              have H := HC39.out
              clear HC39
              by_cases c41 : t258 < 0
              · rw [if_pos c41] at H
                have c41b0 : decide (t258 < 0) = true := decide_eq_true c41
                clear c41
                (first | rw [c41b0] | (simp only [i64_w, i32_w]; rw [c41b0]) | skip)
                have H' := Aside0.mk H
                clear H
                go_wp2
                go_meet
                case rel => exact ⟨_, (true), (by first | rfl | (simp; done) | (simp [*]; done)), H', ⟨by have := HJ6.out; first | omega | exact Nat.le_refl _⟩, ⟨by (with_reducible repeat (first | apply Kd.R_alloc | apply Kd.R_drewN | apply Kd.R_drew)); exact HO_245000.out⟩, ⟨by (with_reducible repeat (first | apply Kd.R_alloc | apply Kd.R_drewN | apply Kd.R_drew)); exact HO_253000.out⟩, ⟨by (with_reducible repeat (first | refine blk_drewN ?_ _ | refine blk_drew ?_ | refine blk_alloc ?_ _)); exact BK244.out⟩, ⟨by (with_reducible repeat (first | refine blk_drewN ?_ _ | refine blk_drew ?_ | refine blk_alloc ?_ _)); exact BK252.out⟩, ⟨by repeat (first | (with_reducible first | exact HB.out | apply below_alloc | apply pw_below_drewN | apply below_drew1 | refine below_set ?_ GE244.out | refine below_set ?_ GE252.out) | exact HB.out)⟩⟩
              · rw [if_neg c41] at H
                have c41b0 : decide (t258 < 0) = false := decide_eq_false c41
                clear c41
                (first | rw [c41b0] | (simp only [i64_w, i32_w]; rw [c41b0]) | skip)
                replace H := Option.bind_eq_some_iff.mp H
                obtain ⟨t260, A420, H⟩ := H
                replace H : (if t260 = true then (laws_FnExactFormatShelf.j1 kj6 l0 t243 (t251 != t243) t240 t248) else (laws_FnExactFormatShelf.j1 kj6 l0 t243 true t240 t248)) = some r := H
                have A42 := Aside0.mk A420
                clear A420
                by_cases c43 : t260 = true
                · subst c43
                  have H1 : (laws_FnExactFormatShelf.j1 kj6 l0 t243 (t251 != t243) t240 t248) = some r := by rw [if_pos rfl] at H; exact H
                  clear H
                  have H := H1
                  clear H1
                  have H' := Aside0.mk H
                  clear H
                  have hnb44 := NB252_244.out
                  have hnc44 := NB244_252.out
                  have hcz45_0 : w40.cell? ⟨gb252, 0, none⟩ = some (.slice Ao18 t248.length co18) := (blk_cell BK252.out 0).trans rfl
                  have hfz45_0 := blk_frozen BK252.out 0
                  have hcz46_0 : w40.cell? ⟨gb244, 0, none⟩ = some (.slice Ao12 t240.length co12) := (blk_cell BK244.out 0).trans rfl
                  have hfz46_0 := blk_frozen BK244.out 0
                  go_wp2_with (first | (go_at_call 8; (with_reducible refine (laws_eqDisk.calls kj6 _ _ t248 _ _ t240 true _ ?side1 ?side2 ?side3 ?side4 A42.out).mono ?_); (case side1 => repeat (first | exact (Kd.R_reads' HO_253000.out).2.2 | (with_reducible refine Kd.C_alloc ?_ _) | (with_reducible refine Kd.C_drewN ?_ _) | (with_reducible refine Kd.C_drew ?_))); (case side2 => exact (Kd.R_reads' HO_253000.out).2.1); (case side3 => repeat (first | exact (Kd.R_reads' HO_245000.out).2.2 | (with_reducible refine Kd.C_alloc ?_ _) | (with_reducible refine Kd.C_drewN ?_ _) | (with_reducible refine Kd.C_drew ?_))); (case side4 => exact (Kd.R_reads' HO_245000.out).2.1); rintro e w47 ⟨rfl, hb⟩; have n1_ := Aside0.mk (Kd.R_below (by (with_reducible repeat (first | apply Kd.R_alloc | apply Kd.R_drewN | apply Kd.R_drew)); exact HO_245000.out) hb); have n2_ := Aside0.mk (Kd.R_below (by (with_reducible repeat (first | apply Kd.R_alloc | apply Kd.R_drewN | apply Kd.R_drew)); exact HO_253000.out) hb); have n4_ := Aside0.mk (blk_below (g := gb244) (o := .cells #[.slice Ao12 t240.length co12] 25 (0, 0)) (by (with_reducible repeat (first | refine blk_drewN ?_ _ | refine blk_drew ?_ | refine blk_alloc ?_ _)); exact BK244.out) hb); have n5_ := Aside0.mk (blk_below (g := gb252) (o := .cells #[.slice Ao18 t248.length co18] 25 (0, 0)) (by (with_reducible repeat (first | refine blk_drewN ?_ _ | refine blk_drew ?_ | refine blk_alloc ?_ _)); exact BK252.out) hb); have n6_ := Aside0.mk (below_step (by repeat (first | (with_reducible first | exact HB.out | apply below_alloc | apply pw_below_drewN | apply below_drew1 | refine below_set ?_ GE244.out | refine below_set ?_ GE252.out) | exact HB.out)) hb); clear HO_245000; clear HO_253000; clear BK244; clear BK252; clear HB; have HO_245000 := n1_; have HO_253000 := n2_; have BK244 := n4_; have BK252 := n5_; have HB := n6_; clear n1_ n2_ n4_ n5_ n6_; (try clear hb); (try clear hb2); (try clear hk); (try clear hi)))
                  go_meet
                  case rel => exact ⟨_, ((t251 != t243)), (by first | rfl | (simp; done) | (simp [*]; done)), H', ⟨by have := HJ6.out; first | omega | exact Nat.le_refl _⟩, ⟨by (with_reducible repeat (first | apply Kd.R_alloc | apply Kd.R_drewN | apply Kd.R_drew)); exact HO_245000.out⟩, ⟨by (with_reducible repeat (first | apply Kd.R_alloc | apply Kd.R_drewN | apply Kd.R_drew)); exact HO_253000.out⟩, ⟨by (with_reducible repeat (first | refine blk_drewN ?_ _ | refine blk_drew ?_ | refine blk_alloc ?_ _)); exact BK244.out⟩, ⟨by (with_reducible repeat (first | refine blk_drewN ?_ _ | refine blk_drew ?_ | refine blk_alloc ?_ _)); exact BK252.out⟩, ⟨by repeat (first | (with_reducible first | exact HB.out | apply below_alloc | apply pw_below_drewN | apply below_drew1 | refine below_set ?_ GE244.out | refine below_set ?_ GE252.out) | exact HB.out)⟩⟩
                · replace c43 := Bool.eq_false_iff.mpr c43
                  subst c43
                  have H1 : (laws_FnExactFormatShelf.j1 kj6 l0 t243 true t240 t248) = some r := by rw [if_neg (show ¬ (false = true) by decide)] at H; exact H
                  clear H
                  have H := H1
                  clear H1
                  have H' := Aside0.mk H
                  clear H
                  have hnb48 := NB252_244.out
                  have hnc48 := NB244_252.out
                  have hcz49_0 : w40.cell? ⟨gb252, 0, none⟩ = some (.slice Ao18 t248.length co18) := (blk_cell BK252.out 0).trans rfl
                  have hfz49_0 := blk_frozen BK252.out 0
                  have hcz50_0 : w40.cell? ⟨gb244, 0, none⟩ = some (.slice Ao12 t240.length co12) := (blk_cell BK244.out 0).trans rfl
                  have hfz50_0 := blk_frozen BK244.out 0
                  go_wp2_with (first | (go_at_call 8; (with_reducible refine (laws_eqDisk.calls kj6 _ _ t248 _ _ t240 false _ ?side1 ?side2 ?side3 ?side4 A42.out).mono ?_); (case side1 => repeat (first | exact (Kd.R_reads' HO_253000.out).2.2 | (with_reducible refine Kd.C_alloc ?_ _) | (with_reducible refine Kd.C_drewN ?_ _) | (with_reducible refine Kd.C_drew ?_))); (case side2 => exact (Kd.R_reads' HO_253000.out).2.1); (case side3 => repeat (first | exact (Kd.R_reads' HO_245000.out).2.2 | (with_reducible refine Kd.C_alloc ?_ _) | (with_reducible refine Kd.C_drewN ?_ _) | (with_reducible refine Kd.C_drew ?_))); (case side4 => exact (Kd.R_reads' HO_245000.out).2.1); rintro e w51 ⟨rfl, hb⟩; have n1_ := Aside0.mk (Kd.R_below (by (with_reducible repeat (first | apply Kd.R_alloc | apply Kd.R_drewN | apply Kd.R_drew)); exact HO_245000.out) hb); have n2_ := Aside0.mk (Kd.R_below (by (with_reducible repeat (first | apply Kd.R_alloc | apply Kd.R_drewN | apply Kd.R_drew)); exact HO_253000.out) hb); have n4_ := Aside0.mk (blk_below (g := gb244) (o := .cells #[.slice Ao12 t240.length co12] 25 (0, 0)) (by (with_reducible repeat (first | refine blk_drewN ?_ _ | refine blk_drew ?_ | refine blk_alloc ?_ _)); exact BK244.out) hb); have n5_ := Aside0.mk (blk_below (g := gb252) (o := .cells #[.slice Ao18 t248.length co18] 25 (0, 0)) (by (with_reducible repeat (first | refine blk_drewN ?_ _ | refine blk_drew ?_ | refine blk_alloc ?_ _)); exact BK252.out) hb); have n6_ := Aside0.mk (below_step (by repeat (first | (with_reducible first | exact HB.out | apply below_alloc | apply pw_below_drewN | apply below_drew1 | refine below_set ?_ GE244.out | refine below_set ?_ GE252.out) | exact HB.out)) hb); clear HO_245000; clear HO_253000; clear BK244; clear BK252; clear HB; have HO_245000 := n1_; have HO_253000 := n2_; have BK244 := n4_; have BK252 := n5_; have HB := n6_; clear n1_ n2_ n4_ n5_ n6_; (try clear hb); (try clear hb2); (try clear hk); (try clear hi)))
                  go_meet
                  case rel => exact ⟨_, (true), (by first | rfl | (simp; done) | (simp [*]; done)), H', ⟨by have := HJ6.out; first | omega | exact Nat.le_refl _⟩, ⟨by (with_reducible repeat (first | apply Kd.R_alloc | apply Kd.R_drewN | apply Kd.R_drew)); exact HO_245000.out⟩, ⟨by (with_reducible repeat (first | apply Kd.R_alloc | apply Kd.R_drewN | apply Kd.R_drew)); exact HO_253000.out⟩, ⟨by (with_reducible repeat (first | refine blk_drewN ?_ _ | refine blk_drew ?_ | refine blk_alloc ?_ _)); exact BK244.out⟩, ⟨by (with_reducible repeat (first | refine blk_drewN ?_ _ | refine blk_drew ?_ | refine blk_alloc ?_ _)); exact BK252.out⟩, ⟨by repeat (first | (with_reducible first | exact HB.out | apply below_alloc | apply pw_below_drewN | apply below_drew1 | refine below_set ?_ GE244.out | refine below_set ?_ GE252.out) | exact HB.out)⟩⟩
            case rest =>
              clear HC39
              try clear c1
              try clear c2
              try clear c2b0
              try clear c2b1
              try clear p2
              try clear c3
              try clear c4
              try clear c5
              try clear c6
              try clear c7
              try clear c8
              try clear c9
              try clear c10
              try clear c19
              try clear c22
              try clear c23
              try clear c27
              try clear c31
              try clear c37
              try clear c41
              try clear c41b0
              try clear c43
              try clear c44
              try clear c48
              try clear hcz13_0
              try clear hcz20_0
              try clear hcz24_0
              try clear hcz25_0
              try clear hcz28_0
              try clear hcz29_0
              try clear hcz45_0
              try clear hcz46_0
              try clear hcz49_0
              try clear hcz50_0
              try clear hfz13_0
              try clear hfz20_0
              try clear hfz24_0
              try clear hfz25_0
              try clear hfz28_0
              try clear hfz29_0
              try clear hfz45_0
              try clear hfz46_0
              try clear hfz49_0
              try clear hfz50_0
              try clear p2
              obtain ⟨kq, x58_38, rfl, HA, HJ38, HO_245000, HO_253000, BK244, BK252, HB⟩ := hcut
              cases kq with
              | zero => exact absurd HA.out (by simp [laws_FnExactFormatShelf.j1])
              | succ kj38 =>
                have H := HA.out
                clear HA
                simp only [laws_FnExactFormatShelf.j1] at H
                by_cases c52 : x58_38 = true
                · subst c52
                  have H1 : (some false) = some r := by rw [if_pos rfl] at H; exact H
                  clear H
                  have H := H1
                  clear H1
                  obtain rfl := Option.some.inj H
                  go_wp2
                  go_ret
                  exact ⟨by first | rfl | (simp [errW_none, errW_some] <;> rfl) | (simp [*, errW_none, errW_some] <;> rfl), by repeat (first | (with_reducible first | exact HB.out | apply below_alloc | apply pw_below_drewN | apply below_drew1 | refine below_set ?_ GE244.out | refine below_set ?_ GE252.out) | exact HB.out)⟩
                · replace c52 := Bool.eq_false_iff.mpr c52
                  subst c52
                  have H1 : ((laws_markDisk.f kj38 t248 1).bind fun bt261 => ((laws_heldDisk.f kj38 bt261.2 1).bind fun t263 => (if t263 < 0 then (some false) else (if t263 = bt261.1 then ((laws_toIntS.f kj38 l0).bind fun t264 => ((impl_FormatShelf.f kj38 t264).bind fun bt267 => ((laws_eqDisk.f kj38 bt267.1 t240).bind fun t272 => (if t272 = true then (laws_FnExactFormatShelf.j2 kj38 bt261.1 (bt267.2 != t243) bt261.2) else (laws_FnExactFormatShelf.j2 kj38 bt261.1 true bt261.2))))) else (some false))))) = some r := by rw [if_neg (show ¬ (false = true) by decide)] at H; exact H
                  clear H
                  have H := H1
                  clear H1
                  replace H := Option.bind_eq_some_iff.mp H
                  obtain ⟨⟨t261, t262⟩, A530, H⟩ := H
                  replace H : ((laws_heldDisk.f kj38 t262 1).bind fun t263 => (if t263 < 0 then (some false) else (if t263 = t261 then ((laws_toIntS.f kj38 l0).bind fun t264 => ((impl_FormatShelf.f kj38 t264).bind fun bt267 => ((laws_eqDisk.f kj38 bt267.1 t240).bind fun t272 => (if t272 = true then (laws_FnExactFormatShelf.j2 kj38 t261 (bt267.2 != t243) t262) else (laws_FnExactFormatShelf.j2 kj38 t261 true t262))))) else (some false)))) = some r := H
                  have A53 := Aside0.mk A530
                  clear A530
                  replace H := Option.bind_eq_some_iff.mp H
                  obtain ⟨t263, A540, H⟩ := H
                  replace H : (if t263 < 0 then (some false) else (if t263 = t261 then ((laws_toIntS.f kj38 l0).bind fun t264 => ((impl_FormatShelf.f kj38 t264).bind fun bt267 => ((laws_eqDisk.f kj38 bt267.1 t240).bind fun t272 => (if t272 = true then (laws_FnExactFormatShelf.j2 kj38 t261 (bt267.2 != t243) t262) else (laws_FnExactFormatShelf.j2 kj38 t261 true t262))))) else (some false))) = some r := H
                  have A54 := Aside0.mk A540
                  clear A540
                  have HC55 := Aside0.mk H
                  clear H
                  have hnb56 := NB252_244.out
                  have hnc56 := NB244_252.out
                  have hcz57_0 : wc.cell? ⟨gb252, 0, none⟩ = some (.slice Ao18 t248.length co18) := (blk_cell BK252.out 0).trans rfl
                  have hfz57_0 := blk_frozen BK252.out 0
                  go_upto_if 66 with (first | ((with_reducible refine gate_callee (f := 11) rfl ?_); refine goesL_ (some 61) rfl rfl Tryd.func11 (by kernel_rfl) rfl #[.agg #[.slice Ao18 t248.length co18], .int .i64 1] rfl (by (try simp only [List.map_toArray, List.map_cons, List.map_nil]); first | done | rfl | (simp only [List.length_drop, List.length_take]; rfl)) ?_; (with_reducible refine (laws_markDisk.calls kj38 (fun k_ => some k_ = (.slice Ao18 t248.length co18 : Value).ownBlock) (.slice Ao18 t248.length co18) t248 1 t261 t262 w _ ?side1 ?side2 A53.out).mono ?_); (case side1 => repeat (first | (with_reducible first | exact HB.out | apply below_alloc | apply pw_below_drewN | apply below_drew1 | refine below_set ?_ GE244.out | refine below_set ?_ GE252.out) | exact HB.out)); (case side2 => exact Kd.R_tight rfl HO_253000.out); rintro e w58 ⟨rfl, hy0, hb, hkp⟩; refine ⟨_, rfl, ?_⟩; have n0_ := Aside0.mk (Kd.R_mono (ok' := fun k_ => some k_ ≠ (.slice Ao18 t248.length co18 : Value).ownBlock) (Kd.R_keptB (HO_245000.out) hkp (fun k_ hk_ hs_ => (hk_) hs_)) (fun k_ hk_ => hk_.1)); have n1_ := Aside0.mk (Kd.R_reok rfl hy0 (fun k_ e_ => HO_253000.out.1 k_ e_)); have n2_ := Aside0.mk (blk_kept (by (with_reducible repeat (first | refine blk_drewN ?_ _ | refine blk_drew ?_ | refine blk_alloc ?_ _)); exact BK244.out) hkp (fun hs_ => (fun e_ => (Kd.R_ne HO_253000.out BK244.out (by decide)) e_) hs_)); have n3_ := Aside0.mk (blk_kept (by (with_reducible repeat (first | refine blk_drewN ?_ _ | refine blk_drew ?_ | refine blk_alloc ?_ _)); exact BK252.out) hkp (fun hs_ => (fun e_ => (Kd.R_ne HO_253000.out BK252.out (by decide)) e_) hs_)); have n4_ := Aside0.mk (hb); clear HO_245000; clear HO_253000; clear BK244; clear BK252; clear HB; have HO_245000 := n0_; have HO_253000 := n1_; have BK244 := n2_; have BK252 := n3_; have HB := n4_; clear n0_ n1_ n2_ n3_ n4_; (try clear hb); (try clear hkp); (try clear hy0); have hcz59_0 : w58.cell? ⟨gb252, 0, none⟩ = some (.slice Ao18 t248.length co18) := (blk_cell BK252.out 0).trans rfl; have hfz59_0 := blk_frozen BK252.out 0) | ((with_reducible refine gate_callee (f := 12) rfl ?_); refine goesL_ (some 64) rfl rfl Tryd.func12 (by kernel_rfl) rfl #[.agg #[.slice Ao18 t262.length co18], .int .i64 1] rfl (by (try simp only [List.map_toArray, List.map_cons, List.map_nil]); first | done | (rw [show t262.length = t248.length from (Kd.R_reads' HO_253000.out).1.symm] <;> rfl) | rfl | (simp only [List.length_drop, List.length_take]; rfl)) ?_; (with_reducible refine (laws_heldDisk.calls kj38 _ _ t262 1 t263 _ ?side1 ?side2 A54.out).mono ?_); (case side1 => repeat (first | exact (Kd.R_reads' HO_253000.out).2.2 | (with_reducible refine Kd.C_alloc ?_ _) | (with_reducible refine Kd.C_drewN ?_ _) | (with_reducible refine Kd.C_drew ?_))); (case side2 => rw [show t262.length = t248.length from (Kd.R_reads' HO_253000.out).1.symm]; exact (Kd.R_reads' HO_253000.out).2.1); rintro e w60 ⟨rfl, hb⟩; refine ⟨_, rfl, ?_⟩; have n0_ := Aside0.mk (Kd.R_below (by (with_reducible repeat (first | apply Kd.R_alloc | apply Kd.R_drewN | apply Kd.R_drew)); exact HO_245000.out) hb); have n1_ := Aside0.mk (Kd.R_below (by (with_reducible repeat (first | apply Kd.R_alloc | apply Kd.R_drewN | apply Kd.R_drew)); exact HO_253000.out) hb); have n2_ := Aside0.mk (blk_below (g := gb244) (o := .cells #[.slice Ao12 t240.length co12] 25 (0, 0)) (by (with_reducible repeat (first | refine blk_drewN ?_ _ | refine blk_drew ?_ | refine blk_alloc ?_ _)); exact BK244.out) hb); have n3_ := Aside0.mk (blk_below (g := gb252) (o := .cells #[.slice Ao18 t248.length co18] 25 (0, 0)) (by (with_reducible repeat (first | refine blk_drewN ?_ _ | refine blk_drew ?_ | refine blk_alloc ?_ _)); exact BK252.out) hb); have n4_ := Aside0.mk (below_step (by repeat (first | (with_reducible first | exact HB.out | apply below_alloc | apply pw_below_drewN | apply below_drew1 | refine below_set ?_ GE244.out | refine below_set ?_ GE252.out) | exact HB.out)) hb); clear HO_245000; clear HO_253000; clear BK244; clear BK252; clear HB; have HO_245000 := n0_; have HO_253000 := n1_; have BK244 := n2_; have BK252 := n3_; have HB := n4_; clear n0_ n1_ n2_ n3_ n4_; (try clear hb); (try clear hb2); (try clear hk); (try clear hi)))
                  have H := HC55.out
                  clear HC55
                  by_cases c61 : t263 < 0
                  · rw [if_pos c61] at H
                    have c61b0 : decide (t263 < 0) = true := decide_eq_true c61
                    clear c61
                    (first | rw [c61b0] | (simp only [i64_w, i32_w]; rw [c61b0]) | skip)
                    obtain rfl := Option.some.inj H
                    go_wp2
                    go_ret
                    exact ⟨by first | rfl | (simp [errW_none, errW_some] <;> rfl) | (simp [*, errW_none, errW_some] <;> rfl), by repeat (first | (with_reducible first | exact HB.out | apply below_alloc | apply pw_below_drewN | apply below_drew1 | refine below_set ?_ GE244.out | refine below_set ?_ GE252.out) | exact HB.out)⟩
                  · rw [if_neg c61] at H
                    have c61b0 : decide (t263 < 0) = false := decide_eq_false c61
                    clear c61
                    (first | rw [c61b0] | (simp only [i64_w, i32_w]; rw [c61b0]) | skip)
                    by_cases c62 : t263 = t261
                    · rw [if_pos c62] at H
                      have c62b0 : (t263 == t261) = true := beq_iff_eq.mpr c62
                      have c62b1 : (t263 != t261) = false := bne_eq_false_iff_eq.mpr c62
                      clear c62
                      replace H := Option.bind_eq_some_iff.mp H
                      obtain ⟨t264, A630, H⟩ := H
                      replace H : ((impl_FormatShelf.f kj38 t264).bind fun bt267 => ((laws_eqDisk.f kj38 bt267.1 t240).bind fun t272 => (if t272 = true then (laws_FnExactFormatShelf.j2 kj38 t261 (bt267.2 != t243) t262) else (laws_FnExactFormatShelf.j2 kj38 t261 true t262)))) = some r := H
                      have A63 := Aside0.mk A630
                      clear A630
                      replace H := Option.bind_eq_some_iff.mp H
                      obtain ⟨⟨t267, t270⟩, A640, H⟩ := H
                      replace H : ((laws_eqDisk.f kj38 t267 t240).bind fun t272 => (if t272 = true then (laws_FnExactFormatShelf.j2 kj38 t261 (t270 != t243) t262) else (laws_FnExactFormatShelf.j2 kj38 t261 true t262))) = some r := H
                      have A64 := Aside0.mk A640
                      clear A640
                      have HC65 := Aside0.mk H
                      clear H
                      go_upto_region 23 with (first | ((with_reducible refine gate_callee (f := 6) rfl ?_); refine goesL_ (some 72) rfl rfl Tryd.func6 (by kernel_rfl) rfl #[.slice A0 l0.length c0] rfl (by (try simp only [List.map_toArray, List.map_cons, List.map_nil]); first | done | rfl | (simp only [List.length_drop, List.length_take]; rfl)) ?_; (with_reducible refine (laws_toIntS.calls kj38 _ _ l0 t264 _ ?side1 ?side2 A63.out).mono ?_); (case side1 => repeat (first | exact (Kd.C_below HR0.out HB.out) | (with_reducible refine Kd.C_alloc ?_ _) | (with_reducible refine Kd.C_drewN ?_ _) | (with_reducible refine Kd.C_drew ?_))); (case side2 => exact HC0.out); rintro e w66 ⟨v265, rfl, ho0, hb⟩; refine ⟨_, rfl, ?_⟩; have n0_ := Aside0.mk (Kd.R_below (by (with_reducible repeat (first | apply Kd.R_alloc | apply Kd.R_drewN | apply Kd.R_drew)); exact HO_245000.out) hb); have n1_ := Aside0.mk (Kd.R_below (by (with_reducible repeat (first | apply Kd.R_alloc | apply Kd.R_drewN | apply Kd.R_drew)); exact HO_253000.out) hb); have n2_ := Aside0.mk (Kd.R_lower ho0 (below_size (by repeat (first | (with_reducible first | exact HB.out | apply below_alloc | apply pw_below_drewN | apply below_drew1 | refine below_set ?_ GE244.out | refine below_set ?_ GE252.out) | exact HB.out)))); have n3_ := Aside0.mk (blk_below (g := gb244) (o := .cells #[.slice Ao12 t240.length co12] 25 (0, 0)) (by (with_reducible repeat (first | refine blk_drewN ?_ _ | refine blk_drew ?_ | refine blk_alloc ?_ _)); exact BK244.out) hb); have n4_ := Aside0.mk (blk_below (g := gb252) (o := .cells #[.slice Ao18 t248.length co18] 25 (0, 0)) (by (with_reducible repeat (first | refine blk_drewN ?_ _ | refine blk_drew ?_ | refine blk_alloc ?_ _)); exact BK252.out) hb); have n5_ := Aside0.mk (below_step (by repeat (first | (with_reducible first | exact HB.out | apply below_alloc | apply pw_below_drewN | apply below_drew1 | refine below_set ?_ GE244.out | refine below_set ?_ GE252.out) | exact HB.out)) hb); clear HO_245000; clear HO_253000; clear BK244; clear BK252; clear HB; have HO_245000 := n0_; have HO_253000 := n1_; have HO266 := n2_; have BK244 := n3_; have BK252 := n4_; have HB := n5_; clear n0_ n1_ n2_ n3_ n4_ n5_; (try clear hb); (try clear hb2); (try clear hk); (try clear hi); (try clear ho0); obtain ⟨Ao67, co67, eo67⟩ := Kd.R_slice HO266.out; subst eo67) | ((with_reducible refine gate_callee (f := 7) rfl ?_); refine goesL_ (some 73) rfl rfl Tryd.func7 (by kernel_rfl) rfl #[.slice Ao67 t264.length co67] rfl (by (try simp only [List.map_toArray, List.map_cons, List.map_nil]); first | done | rfl | (simp only [List.length_drop, List.length_take]; rfl)) ?_; (with_reducible refine (impl_FormatShelf.calls kj38 _ _ t264 t267 t270 _ ?side1 ?side2 A64.out).mono ?_); (case side1 => repeat (first | exact (Kd.R_reads' HO266.out).2.2 | (with_reducible refine Kd.C_alloc ?_ _) | (with_reducible refine Kd.C_drewN ?_ _) | (with_reducible refine Kd.C_drew ?_))); (case side2 => exact (Kd.R_reads' HO266.out).2.1); rintro e w68 ⟨v268, rfl, ho0, hb⟩; refine ⟨_, rfl, ?_⟩; have n0_ := Aside0.mk (Kd.R_elder' (by (with_reducible repeat (first | apply Kd.R_alloc | apply Kd.R_drewN | apply Kd.R_drew)); exact HO_245000.out) (Kd.R_base ho0) hb); have n1_ := Aside0.mk (Kd.R_elder' (by (with_reducible repeat (first | apply Kd.R_alloc | apply Kd.R_drewN | apply Kd.R_drew)); exact HO_253000.out) (Kd.R_base ho0) hb); have n3_ := Aside0.mk (Kd.R_lower (Kd.R_new' (Kd.R_new' ho0 (Kd.R_lt (by (with_reducible repeat (first | apply Kd.R_alloc | apply Kd.R_drewN | apply Kd.R_drew)); exact HO_245000.out))) (Kd.R_lt (by (with_reducible repeat (first | apply Kd.R_alloc | apply Kd.R_drewN | apply Kd.R_drew)); exact HO_253000.out))) (below_size (by repeat (first | (with_reducible first | exact HB.out | apply below_alloc | apply pw_below_drewN | apply below_drew1 | refine below_set ?_ GE244.out | refine below_set ?_ GE252.out) | exact HB.out)))); have n4_ := Aside0.mk (blk_below (g := gb244) (o := .cells #[.slice Ao12 t240.length co12] 25 (0, 0)) (by (with_reducible repeat (first | refine blk_drewN ?_ _ | refine blk_drew ?_ | refine blk_alloc ?_ _)); exact BK244.out) hb); have n5_ := Aside0.mk (blk_below (g := gb252) (o := .cells #[.slice Ao18 t248.length co18] 25 (0, 0)) (by (with_reducible repeat (first | refine blk_drewN ?_ _ | refine blk_drew ?_ | refine blk_alloc ?_ _)); exact BK252.out) hb); have n6_ := Aside0.mk (below_step (by repeat (first | (with_reducible first | exact HB.out | apply below_alloc | apply pw_below_drewN | apply below_drew1 | refine below_set ?_ GE244.out | refine below_set ?_ GE252.out) | exact HB.out)) hb); clear HO_245000; clear HO_253000; clear HO266; clear BK244; clear BK252; clear HB; have HO_245000 := n0_; have HO_253000 := n1_; have HO269 := n3_; have BK244 := n4_; have BK252 := n5_; have HB := n6_; clear n0_ n1_ n3_ n4_ n5_ n6_; (try clear hb); (try clear hb2); (try clear hk); (try clear hi); (try clear ho0)) | ((with_reducible refine gate_dst (N := 11) rfl ?_); refine box_event ?hg (N := 11) ?hd (cs := #[.slice none 0 0]) (t := 25) ?hr ?_; (case hd => rfl); (case hg => rfl); (case hr => first | (go_simp; done) | (go_simp; rfl)); intro gb271 hg w69 hbox hb; have n0_ := Aside0.mk (Kd.R_below (by (with_reducible repeat (first | apply Kd.R_alloc | apply Kd.R_drewN | apply Kd.R_drew)); exact HO_245000.out) hb); have n1_ := Aside0.mk (Kd.R_below (by (with_reducible repeat (first | apply Kd.R_alloc | apply Kd.R_drewN | apply Kd.R_drew)); exact HO_253000.out) hb); have n3_ := Aside0.mk (Kd.R_below (by (with_reducible repeat (first | apply Kd.R_alloc | apply Kd.R_drewN | apply Kd.R_drew)); exact HO269.out) hb); have n4_ := Aside0.mk (blk_below (g := gb244) (o := .cells #[.slice Ao12 t240.length co12] 25 (0, 0)) (by (with_reducible repeat (first | refine blk_drewN ?_ _ | refine blk_drew ?_ | refine blk_alloc ?_ _)); exact BK244.out) hb); have n5_ := Aside0.mk (blk_below (g := gb252) (o := .cells #[.slice Ao18 t248.length co18] 25 (0, 0)) (by (with_reducible repeat (first | refine blk_drewN ?_ _ | refine blk_drew ?_ | refine blk_alloc ?_ _)); exact BK252.out) hb); have n6_ := Aside0.mk (below_step (by repeat (first | (with_reducible first | exact HB.out | apply below_alloc | apply pw_below_drewN | apply below_drew1 | refine below_set ?_ GE244.out | refine below_set ?_ GE252.out) | exact HB.out)) hb); have n7_ := Aside0.mk (hbox); have n9_ := Aside0.mk ((by rw [hg]; exact (below_size (by repeat (first | (with_reducible first | exact HB.out | apply below_alloc | apply pw_below_drewN | apply below_drew1 | refine below_set ?_ GE244.out | refine below_set ?_ GE252.out) | exact HB.out))) : w.heap.size ≤ gb271)); have n10_ := Aside0.mk ((by rw [hg]; exact Nat.ne_of_lt (blk_lt (g := gb244) (o := .cells #[.slice Ao12 t240.length co12] 25 (0, 0)) (by (with_reducible repeat (first | refine blk_drewN ?_ _ | refine blk_drew ?_ | refine blk_alloc ?_ _)); exact BK244.out)) : gb244 ≠ gb271)); have n11_ := Aside0.mk ((by rw [hg]; exact Nat.ne_of_gt (blk_lt (g := gb244) (o := .cells #[.slice Ao12 t240.length co12] 25 (0, 0)) (by (with_reducible repeat (first | refine blk_drewN ?_ _ | refine blk_drew ?_ | refine blk_alloc ?_ _)); exact BK244.out)) : gb271 ≠ gb244)); have n12_ := Aside0.mk ((by rw [hg]; exact Nat.ne_of_lt (blk_lt (g := gb252) (o := .cells #[.slice Ao18 t248.length co18] 25 (0, 0)) (by (with_reducible repeat (first | refine blk_drewN ?_ _ | refine blk_drew ?_ | refine blk_alloc ?_ _)); exact BK252.out)) : gb252 ≠ gb271)); have n13_ := Aside0.mk ((by rw [hg]; exact Nat.ne_of_gt (blk_lt (g := gb252) (o := .cells #[.slice Ao18 t248.length co18] 25 (0, 0)) (by (with_reducible repeat (first | refine blk_drewN ?_ _ | refine blk_drew ?_ | refine blk_alloc ?_ _)); exact BK252.out)) : gb271 ≠ gb252)); clear HO_245000; clear HO_253000; clear HO269; clear BK244; clear BK252; clear HB; have HO_245000 := n0_; have HO_253000 := n1_; have HO269 := n3_; have BK244 := n4_; have BK252 := n5_; have HB := n6_; have BK271 := n7_; have GE271 := n9_; have NB244_271 := n10_; have NB271_244 := n11_; have NB252_271 := n12_; have NB271_252 := n13_; clear n0_ n1_ n3_ n4_ n5_ n6_ n7_ n9_ n10_ n11_ n12_ n13_; clear hb hbox hg; obtain ⟨Ao70, co70, eo70⟩ := Kd.R_slice HO269.out; subst eo70; have hnb71 := NB271_244.out; have hnc71 := NB244_271.out; have hnb72 := NB271_252.out; have hnc72 := NB252_271.out; have hcz73_0 : w69.cell? ⟨gb271, 0, none⟩ = some (.slice none 0 0) := (blk_cell BK271.out 0).trans rfl; have hfz73_0 := blk_frozen BK271.out 0))
                      (try simp only [Act.put, List.setIfInBounds_toArray, List.set_cons_zero, List.set_cons_succ])
                      go_cut [84] (fun v84 wc => ∃ (kq : Nat) (x84_64 : Bool), v84 = .bool x84_64 ∧ Aside0 (laws_FnExactFormatShelf.j2 kq t261 x84_64 t262 = some r) ∧ Aside0 (kq ≤ kj38) ∧ Aside0 (Kd.R k62 62 wc w.heap.size (fun k_ => some k_ ≠ ((.slice Ao18 t248.length co18) : Value).ownBlock ∧ some k_ ≠ ((.slice Ao70 t267.length co70) : Value).ownBlock) (.slice Ao12 t240.length co12) t240) ∧ Aside0 (Kd.R k62 62 wc w.heap.size (fun k_ => some k_ ≠ ((.slice Ao12 t240.length co12) : Value).ownBlock ∧ some k_ ≠ ((.slice Ao70 t267.length co70) : Value).ownBlock) (.slice Ao18 t248.length co18) t262) ∧ Aside0 (Kd.R k62 62 wc w.heap.size (fun k_ => some k_ ≠ ((.slice Ao12 t240.length co12) : Value).ownBlock ∧ some k_ ≠ ((.slice Ao18 t248.length co18) : Value).ownBlock) (.slice Ao70 t267.length co70) t267) ∧ Aside0 (wc.heap[gb244]? = some (.cells #[(.slice Ao12 t240.length co12)] 25 (0, 0))) ∧ Aside0 (wc.heap[gb252]? = some (.cells #[(.slice Ao18 t248.length co18)] 25 (0, 0))) ∧ Aside0 (wc.heap[gb271]? = some (.cells #[(.slice Ao70 t267.length co70)] 25 (0, 0))) ∧ Aside0 (Below w.heap.size w wc))
                      case first =>
                        have H := HC65.out
                        clear HC65
                        replace H := Option.bind_eq_some_iff.mp H
                        obtain ⟨t272, A740, H⟩ := H
                        replace H : (if t272 = true then (laws_FnExactFormatShelf.j2 kj38 t261 (t270 != t243) t262) else (laws_FnExactFormatShelf.j2 kj38 t261 true t262)) = some r := H
                        have A74 := Aside0.mk A740
                        clear A740
                        by_cases c75 : t272 = true
                        · subst c75
                          have H1 : (laws_FnExactFormatShelf.j2 kj38 t261 (t270 != t243) t262) = some r := by rw [if_pos rfl] at H; exact H
                          clear H
                          have H := H1
                          clear H1
                          have H' := Aside0.mk H
                          clear H
                          have hnb76 := NB271_244.out
                          have hnc76 := NB244_271.out
                          have hnb77 := NB271_252.out
                          have hnc77 := NB252_271.out
                          have hcz78_0 : w69.cell? ⟨gb271, 0, none⟩ = some (.slice none 0 0) := (blk_cell BK271.out 0).trans rfl
                          have hfz78_0 := blk_frozen BK271.out 0
                          have hnb79 := NB244_252.out
                          have hnc79 := NB252_244.out
                          have hcz80_0 : w69.cell? ⟨gb244, 0, none⟩ = some (.slice Ao12 t240.length co12) := (blk_cell BK244.out 0).trans rfl
                          have hfz80_0 := blk_frozen BK244.out 0
                          go_wp2_with (first | ((with_reducible refine gate_callee (f := 8) rfl ?_); refine goesL_ (some 78) rfl rfl Tryd.func8 (by kernel_rfl) rfl #[.agg #[.slice Ao70 t267.length co70], .agg #[.slice Ao12 t240.length co12]] rfl (by (try simp only [List.map_toArray, List.map_cons, List.map_nil]); first | done | rfl | (simp only [List.length_drop, List.length_take]; rfl)) ?_; (with_reducible refine (laws_eqDisk.calls kj38 _ _ t267 _ _ t240 true _ ?side1 ?side2 ?side3 ?side4 A74.out).mono ?_); (case side1 => refine (Kd.R_reads' (e := 62) (base := w.heap.size) (ok := fun k_ => ((True ∧ some k_ ≠ (.slice Ao12 t240.length co12 : Value).ownBlock) ∧ some k_ ≠ (.slice Ao18 t248.length co18 : Value).ownBlock)) (n := t267.length) (c := co70) ?_).2.2; exact (by (with_reducible repeat (first | apply Kd.R_alloc | apply Kd.R_drewN | apply Kd.R_drew)); exact (Kd.R_mono (Kd.R_far (p := ⟨gb271, 0, none⟩) (Kd.R_types HO269.out BK271.out (by decide)) (fun _ hk => hk.2) (.slice Ao70 t267.length co70)) (fun _ h_ => h_.1)))); (case side2 => exact (Kd.R_reads' HO269.out).2.1); (case side3 => refine (Kd.R_reads' (e := 62) (base := w.heap.size) (ok := fun k_ => (some k_ ≠ (.slice Ao18 t248.length co18 : Value).ownBlock ∧ some k_ ≠ (.slice Ao70 t267.length co70 : Value).ownBlock)) (n := t240.length) (c := co12) ?_).2.2; exact (by (with_reducible repeat (first | apply Kd.R_alloc | apply Kd.R_drewN | apply Kd.R_drew)); exact (Kd.R_mono (Kd.R_far (p := ⟨gb271, 0, none⟩) (Kd.R_types HO_245000.out BK271.out (by decide)) (fun _ hk => hk.2) (.slice Ao70 t267.length co70)) (fun _ h_ => h_.1)))); (case side4 => exact (Kd.R_reads' HO_245000.out).2.1); rintro e w81 ⟨rfl, hb⟩; refine ⟨_, rfl, ?_⟩; have n0_ := Aside0.mk (Kd.R_below (by (with_reducible repeat (first | apply Kd.R_alloc | apply Kd.R_drewN | apply Kd.R_drew)); exact (Kd.R_mono (Kd.R_far (p := ⟨gb271, 0, none⟩) (Kd.R_types HO_245000.out BK271.out (by decide)) (fun _ hk => hk.2) (.slice Ao70 t267.length co70)) (fun _ h_ => h_.1))) hb); have n1_ := Aside0.mk (Kd.R_below (by (with_reducible repeat (first | apply Kd.R_alloc | apply Kd.R_drewN | apply Kd.R_drew)); exact (Kd.R_mono (Kd.R_far (p := ⟨gb271, 0, none⟩) (Kd.R_types HO_253000.out BK271.out (by decide)) (fun _ hk => hk.2) (.slice Ao70 t267.length co70)) (fun _ h_ => h_.1))) hb); have n3_ := Aside0.mk (Kd.R_below (by (with_reducible repeat (first | apply Kd.R_alloc | apply Kd.R_drewN | apply Kd.R_drew)); exact (Kd.R_mono (Kd.R_far (p := ⟨gb271, 0, none⟩) (Kd.R_types HO269.out BK271.out (by decide)) (fun _ hk => hk.2) (.slice Ao70 t267.length co70)) (fun _ h_ => h_.1))) hb); have n4_ := Aside0.mk (blk_below (g := gb244) (o := .cells #[.slice Ao12 t240.length co12] 25 (0, 0)) (by (with_reducible repeat (first | refine blk_drewN ?_ _ | refine blk_drew ?_ | refine blk_alloc ?_ _)); refine blk_far ?_ NB244_271.out _; (with_reducible repeat (first | refine blk_drewN ?_ _ | refine blk_drew ?_ | refine blk_alloc ?_ _)); exact BK244.out) hb); have n5_ := Aside0.mk (blk_below (g := gb252) (o := .cells #[.slice Ao18 t248.length co18] 25 (0, 0)) (by (with_reducible repeat (first | refine blk_drewN ?_ _ | refine blk_drew ?_ | refine blk_alloc ?_ _)); refine blk_far ?_ NB252_271.out _; (with_reducible repeat (first | refine blk_drewN ?_ _ | refine blk_drew ?_ | refine blk_alloc ?_ _)); exact BK252.out) hb); have n6_ := Aside0.mk (blk_below (g := gb271) (o := .cells #[.slice Ao70 t267.length co70] 25 (0, 0)) (by (with_reducible repeat (first | refine blk_drewN ?_ _ | refine blk_drew ?_ | refine blk_alloc ?_ _)); refine blk_put (cs := #[.slice none 0 0]) ?_ 0 _ rfl; (with_reducible repeat (first | refine blk_drewN ?_ _ | refine blk_drew ?_ | refine blk_alloc ?_ _)); exact BK271.out) hb); have n7_ := Aside0.mk (below_step (by repeat (first | (with_reducible first | exact HB.out | apply below_alloc | apply pw_below_drewN | apply below_drew1 | refine below_set ?_ GE244.out | refine below_set ?_ GE252.out | refine below_set ?_ GE271.out) | exact HB.out)) hb); clear HO_245000; clear HO_253000; clear HO269; clear BK244; clear BK252; clear BK271; clear HB; have HO_245000 := n0_; have HO_253000 := n1_; have HO269 := n3_; have BK244 := n4_; have BK252 := n5_; have BK271 := n6_; have HB := n7_; clear n0_ n1_ n3_ n4_ n5_ n6_ n7_; (try clear hb); (try clear hb2); (try clear hk); (try clear hi)))
                          go_meet
                          case rel => exact ⟨_, ((t270 != t243)), (by first | rfl | (simp; done) | (simp [*]; done)), H', ⟨by have := HJ6.out; have := HJ38.out; first | omega | exact Nat.le_refl _⟩, ⟨by (with_reducible repeat (first | apply Kd.R_alloc | apply Kd.R_drewN | apply Kd.R_drew)); exact HO_245000.out⟩, ⟨by (with_reducible repeat (first | apply Kd.R_alloc | apply Kd.R_drewN | apply Kd.R_drew)); exact HO_253000.out⟩, ⟨by (with_reducible repeat (first | apply Kd.R_alloc | apply Kd.R_drewN | apply Kd.R_drew)); exact Kd.R_mono HO269.out (fun _ hk => ⟨hk.1.2, hk.2⟩)⟩, ⟨by (with_reducible repeat (first | refine blk_drewN ?_ _ | refine blk_drew ?_ | refine blk_alloc ?_ _)); exact BK244.out⟩, ⟨by (with_reducible repeat (first | refine blk_drewN ?_ _ | refine blk_drew ?_ | refine blk_alloc ?_ _)); exact BK252.out⟩, ⟨by (with_reducible repeat (first | refine blk_drewN ?_ _ | refine blk_drew ?_ | refine blk_alloc ?_ _)); exact BK271.out⟩, ⟨by repeat (first | (with_reducible first | exact HB.out | apply below_alloc | apply pw_below_drewN | apply below_drew1 | refine below_set ?_ GE244.out | refine below_set ?_ GE252.out | refine below_set ?_ GE271.out) | exact HB.out)⟩⟩
                        · replace c75 := Bool.eq_false_iff.mpr c75
                          subst c75
                          have H1 : (laws_FnExactFormatShelf.j2 kj38 t261 true t262) = some r := by rw [if_neg (show ¬ (false = true) by decide)] at H; exact H
                          clear H
                          have H := H1
                          clear H1
                          have H' := Aside0.mk H
                          clear H
                          have hnb82 := NB271_244.out
                          have hnc82 := NB244_271.out
                          have hnb83 := NB271_252.out
                          have hnc83 := NB252_271.out
                          have hcz84_0 : w69.cell? ⟨gb271, 0, none⟩ = some (.slice none 0 0) := (blk_cell BK271.out 0).trans rfl
                          have hfz84_0 := blk_frozen BK271.out 0
                          have hnb85 := NB244_252.out
                          have hnc85 := NB252_244.out
                          have hcz86_0 : w69.cell? ⟨gb244, 0, none⟩ = some (.slice Ao12 t240.length co12) := (blk_cell BK244.out 0).trans rfl
                          have hfz86_0 := blk_frozen BK244.out 0
                          go_wp2_with (first | ((with_reducible refine gate_callee (f := 8) rfl ?_); refine goesL_ (some 78) rfl rfl Tryd.func8 (by kernel_rfl) rfl #[.agg #[.slice Ao70 t267.length co70], .agg #[.slice Ao12 t240.length co12]] rfl (by (try simp only [List.map_toArray, List.map_cons, List.map_nil]); first | done | rfl | (simp only [List.length_drop, List.length_take]; rfl)) ?_; (with_reducible refine (laws_eqDisk.calls kj38 _ _ t267 _ _ t240 false _ ?side1 ?side2 ?side3 ?side4 A74.out).mono ?_); (case side1 => refine (Kd.R_reads' (e := 62) (base := w.heap.size) (ok := fun k_ => ((True ∧ some k_ ≠ (.slice Ao12 t240.length co12 : Value).ownBlock) ∧ some k_ ≠ (.slice Ao18 t248.length co18 : Value).ownBlock)) (n := t267.length) (c := co70) ?_).2.2; exact (by (with_reducible repeat (first | apply Kd.R_alloc | apply Kd.R_drewN | apply Kd.R_drew)); exact (Kd.R_mono (Kd.R_far (p := ⟨gb271, 0, none⟩) (Kd.R_types HO269.out BK271.out (by decide)) (fun _ hk => hk.2) (.slice Ao70 t267.length co70)) (fun _ h_ => h_.1)))); (case side2 => exact (Kd.R_reads' HO269.out).2.1); (case side3 => refine (Kd.R_reads' (e := 62) (base := w.heap.size) (ok := fun k_ => (some k_ ≠ (.slice Ao18 t248.length co18 : Value).ownBlock ∧ some k_ ≠ (.slice Ao70 t267.length co70 : Value).ownBlock)) (n := t240.length) (c := co12) ?_).2.2; exact (by (with_reducible repeat (first | apply Kd.R_alloc | apply Kd.R_drewN | apply Kd.R_drew)); exact (Kd.R_mono (Kd.R_far (p := ⟨gb271, 0, none⟩) (Kd.R_types HO_245000.out BK271.out (by decide)) (fun _ hk => hk.2) (.slice Ao70 t267.length co70)) (fun _ h_ => h_.1)))); (case side4 => exact (Kd.R_reads' HO_245000.out).2.1); rintro e w87 ⟨rfl, hb⟩; refine ⟨_, rfl, ?_⟩; have n0_ := Aside0.mk (Kd.R_below (by (with_reducible repeat (first | apply Kd.R_alloc | apply Kd.R_drewN | apply Kd.R_drew)); exact (Kd.R_mono (Kd.R_far (p := ⟨gb271, 0, none⟩) (Kd.R_types HO_245000.out BK271.out (by decide)) (fun _ hk => hk.2) (.slice Ao70 t267.length co70)) (fun _ h_ => h_.1))) hb); have n1_ := Aside0.mk (Kd.R_below (by (with_reducible repeat (first | apply Kd.R_alloc | apply Kd.R_drewN | apply Kd.R_drew)); exact (Kd.R_mono (Kd.R_far (p := ⟨gb271, 0, none⟩) (Kd.R_types HO_253000.out BK271.out (by decide)) (fun _ hk => hk.2) (.slice Ao70 t267.length co70)) (fun _ h_ => h_.1))) hb); have n3_ := Aside0.mk (Kd.R_below (by (with_reducible repeat (first | apply Kd.R_alloc | apply Kd.R_drewN | apply Kd.R_drew)); exact (Kd.R_mono (Kd.R_far (p := ⟨gb271, 0, none⟩) (Kd.R_types HO269.out BK271.out (by decide)) (fun _ hk => hk.2) (.slice Ao70 t267.length co70)) (fun _ h_ => h_.1))) hb); have n4_ := Aside0.mk (blk_below (g := gb244) (o := .cells #[.slice Ao12 t240.length co12] 25 (0, 0)) (by (with_reducible repeat (first | refine blk_drewN ?_ _ | refine blk_drew ?_ | refine blk_alloc ?_ _)); refine blk_far ?_ NB244_271.out _; (with_reducible repeat (first | refine blk_drewN ?_ _ | refine blk_drew ?_ | refine blk_alloc ?_ _)); exact BK244.out) hb); have n5_ := Aside0.mk (blk_below (g := gb252) (o := .cells #[.slice Ao18 t248.length co18] 25 (0, 0)) (by (with_reducible repeat (first | refine blk_drewN ?_ _ | refine blk_drew ?_ | refine blk_alloc ?_ _)); refine blk_far ?_ NB252_271.out _; (with_reducible repeat (first | refine blk_drewN ?_ _ | refine blk_drew ?_ | refine blk_alloc ?_ _)); exact BK252.out) hb); have n6_ := Aside0.mk (blk_below (g := gb271) (o := .cells #[.slice Ao70 t267.length co70] 25 (0, 0)) (by (with_reducible repeat (first | refine blk_drewN ?_ _ | refine blk_drew ?_ | refine blk_alloc ?_ _)); refine blk_put (cs := #[.slice none 0 0]) ?_ 0 _ rfl; (with_reducible repeat (first | refine blk_drewN ?_ _ | refine blk_drew ?_ | refine blk_alloc ?_ _)); exact BK271.out) hb); have n7_ := Aside0.mk (below_step (by repeat (first | (with_reducible first | exact HB.out | apply below_alloc | apply pw_below_drewN | apply below_drew1 | refine below_set ?_ GE244.out | refine below_set ?_ GE252.out | refine below_set ?_ GE271.out) | exact HB.out)) hb); clear HO_245000; clear HO_253000; clear HO269; clear BK244; clear BK252; clear BK271; clear HB; have HO_245000 := n0_; have HO_253000 := n1_; have HO269 := n3_; have BK244 := n4_; have BK252 := n5_; have BK271 := n6_; have HB := n7_; clear n0_ n1_ n3_ n4_ n5_ n6_ n7_; (try clear hb); (try clear hb2); (try clear hk); (try clear hi)))
                          go_meet
                          case rel => exact ⟨_, (true), (by first | rfl | (simp; done) | (simp [*]; done)), H', ⟨by have := HJ6.out; have := HJ38.out; first | omega | exact Nat.le_refl _⟩, ⟨by (with_reducible repeat (first | apply Kd.R_alloc | apply Kd.R_drewN | apply Kd.R_drew)); exact HO_245000.out⟩, ⟨by (with_reducible repeat (first | apply Kd.R_alloc | apply Kd.R_drewN | apply Kd.R_drew)); exact HO_253000.out⟩, ⟨by (with_reducible repeat (first | apply Kd.R_alloc | apply Kd.R_drewN | apply Kd.R_drew)); exact Kd.R_mono HO269.out (fun _ hk => ⟨hk.1.2, hk.2⟩)⟩, ⟨by (with_reducible repeat (first | refine blk_drewN ?_ _ | refine blk_drew ?_ | refine blk_alloc ?_ _)); exact BK244.out⟩, ⟨by (with_reducible repeat (first | refine blk_drewN ?_ _ | refine blk_drew ?_ | refine blk_alloc ?_ _)); exact BK252.out⟩, ⟨by (with_reducible repeat (first | refine blk_drewN ?_ _ | refine blk_drew ?_ | refine blk_alloc ?_ _)); exact BK271.out⟩, ⟨by repeat (first | (with_reducible first | exact HB.out | apply below_alloc | apply pw_below_drewN | apply below_drew1 | refine below_set ?_ GE244.out | refine below_set ?_ GE252.out | refine below_set ?_ GE271.out) | exact HB.out)⟩⟩
                      case rest =>
                        clear HC65
                        try clear c1
                        try clear c2
                        try clear c2b0
                        try clear c2b1
                        try clear p2
                        try clear c3
                        try clear c4
                        try clear c5
                        try clear c6
                        try clear c7
                        try clear c8
                        try clear c9
                        try clear c10
                        try clear c11
                        try clear c12
                        try clear c19
                        try clear c22
                        try clear c23
                        try clear c27
                        try clear c31
                        try clear c37
                        try clear c41
                        try clear c41b0
                        try clear c43
                        try clear c44
                        try clear c48
                        try clear c52
                        try clear c56
                        try clear c61
                        try clear c61b0
                        try clear c62
                        try clear c62b0
                        try clear c62b1
                        try clear c71
                        try clear c72
                        try clear c75
                        try clear c76
                        try clear c77
                        try clear c79
                        try clear c82
                        try clear c83
                        try clear c85
                        try clear hcz13_0
                        try clear hcz20_0
                        try clear hcz24_0
                        try clear hcz25_0
                        try clear hcz28_0
                        try clear hcz29_0
                        try clear hcz45_0
                        try clear hcz46_0
                        try clear hcz49_0
                        try clear hcz50_0
                        try clear hcz57_0
                        try clear hcz59_0
                        try clear hcz73_0
                        try clear hcz78_0
                        try clear hcz80_0
                        try clear hcz84_0
                        try clear hcz86_0
                        try clear hfz13_0
                        try clear hfz20_0
                        try clear hfz24_0
                        try clear hfz25_0
                        try clear hfz28_0
                        try clear hfz29_0
                        try clear hfz45_0
                        try clear hfz46_0
                        try clear hfz49_0
                        try clear hfz50_0
                        try clear hfz57_0
                        try clear hfz59_0
                        try clear hfz73_0
                        try clear hfz78_0
                        try clear hfz80_0
                        try clear hfz84_0
                        try clear hfz86_0
                        try clear p2
                        obtain ⟨kq, x84_64, rfl, HA, HJ64, HO_245000, HO_253000, HO_272000, BK244, BK252, BK271, HB⟩ := hcut
                        have hl253000_64 := (Kd.R_reads' HO_253000.out).1
                        rw [hl253000_64] at HO_253000
                        (try simp only [hl253000_64])
                        (try simp only [hl253000_64] at BK244)
                        (try simp only [hl253000_64] at BK252)
                        (try simp only [hl253000_64] at BK271)
                        (try simp only [hl253000_64] at HO_245000)
                        (try simp only [hl253000_64] at HO_272000)
                        cases kq with
                        | zero => exact absurd HA.out (by simp [laws_FnExactFormatShelf.j2])
                        | succ kj64 =>
                          have H := HA.out
                          clear HA
                          simp only [laws_FnExactFormatShelf.j2] at H
                          by_cases c88 : x84_64 = true
                          · subst c88
                            have H1 : (some false) = some r := by rw [if_pos rfl] at H; exact H
                            clear H
                            have H := H1
                            clear H1
                            obtain rfl := Option.some.inj H
                            go_wp2
                            go_ret
                            exact ⟨by first | rfl | (simp [errW_none, errW_some] <;> rfl) | (simp [*, errW_none, errW_some] <;> rfl), by repeat (first | (with_reducible first | exact HB.out | apply below_alloc | apply pw_below_drewN | apply below_drew1 | refine below_set ?_ GE244.out | refine below_set ?_ GE252.out | refine below_set ?_ GE271.out) | exact HB.out)⟩
                          · replace c88 := Bool.eq_false_iff.mpr c88
                            subst c88
                            have H1 : ((laws_heldDisk.f kj64 t262 1).bind fun t273 => (if t273 < 0 then (some false) else (if t273 = t261 then (some true) else (some false)))) = some r := by rw [if_neg (show ¬ (false = true) by decide)] at H; exact H
                            clear H
                            have H := H1
                            clear H1
                            replace H := Option.bind_eq_some_iff.mp H
                            obtain ⟨t273, A890, H⟩ := H
                            replace H : (if t273 < 0 then (some false) else (if t273 = t261 then (some true) else (some false))) = some r := H
                            have A89 := Aside0.mk A890
                            clear A890
                            have HC90 := Aside0.mk H
                            clear H
                            have hnb91 := NB252_244.out
                            have hnc91 := NB244_252.out
                            have hnb92 := NB252_271.out
                            have hnc92 := NB271_252.out
                            have hcz93_0 : wc.cell? ⟨gb252, 0, none⟩ = some (.slice Ao18 t262.length co18) := (blk_cell BK252.out 0).trans rfl
                            have hfz93_0 := blk_frozen BK252.out 0
                            go_upto_if 89 with (first | ((with_reducible refine gate_callee (f := 12) rfl ?_); refine goesL_ (some 87) rfl rfl Tryd.func12 (by kernel_rfl) rfl #[.agg #[.slice Ao18 t262.length co18], .int .i64 1] rfl (by (try simp only [List.map_toArray, List.map_cons, List.map_nil]); first | done | rfl | (simp only [List.length_drop, List.length_take]; rfl)) ?_; (with_reducible refine (laws_heldDisk.calls kj64 _ _ t262 1 t273 _ ?side1 ?side2 A89.out).mono ?_); (case side1 => repeat (first | exact (Kd.R_reads' HO_253000.out).2.2 | (with_reducible refine Kd.C_alloc ?_ _) | (with_reducible refine Kd.C_drewN ?_ _) | (with_reducible refine Kd.C_drew ?_))); (case side2 => exact (Kd.R_reads' HO_253000.out).2.1); rintro e w94 ⟨rfl, hb⟩; refine ⟨_, rfl, ?_⟩; have n6_ := Aside0.mk (below_step (by repeat (first | (with_reducible first | exact HB.out | apply below_alloc | apply pw_below_drewN | apply below_drew1 | refine below_set ?_ GE244.out | refine below_set ?_ GE252.out | refine below_set ?_ GE271.out) | exact HB.out)) hb); clear HO_245000; clear HO_253000; clear HO_272000; clear BK244; clear BK252; clear BK271; clear HB; have HB := n6_; clear n6_; (try clear hb); (try clear hb2); (try clear hk); (try clear hi)))
                            have H := HC90.out
                            clear HC90
                            by_cases c95 : t273 < 0
                            · rw [if_pos c95] at H
                              have c95b0 : decide (t273 < 0) = true := decide_eq_true c95
                              clear c95
                              (first | rw [c95b0] | (simp only [i64_w, i32_w]; rw [c95b0]) | skip)
                              obtain rfl := Option.some.inj H
                              go_wp2
                              go_ret
                              exact ⟨by first | rfl | (simp [errW_none, errW_some] <;> rfl) | (simp [*, errW_none, errW_some] <;> rfl), by repeat (first | (with_reducible first | exact HB.out | apply below_alloc | apply pw_below_drewN | apply below_drew1 | refine below_set ?_ GE244.out | refine below_set ?_ GE252.out | refine below_set ?_ GE271.out) | exact HB.out)⟩
                            · rw [if_neg c95] at H
                              have c95b0 : decide (t273 < 0) = false := decide_eq_false c95
                              clear c95
                              (first | rw [c95b0] | (simp only [i64_w, i32_w]; rw [c95b0]) | skip)
                              by_cases c96 : t273 = t261
                              · rw [if_pos c96] at H
                                have c96b0 : (t273 == t261) = true := beq_iff_eq.mpr c96
                                have c96b1 : (t273 != t261) = false := bne_eq_false_iff_eq.mpr c96
                                clear c96
                                obtain rfl := Option.some.inj H
                                go_wp2
                                go_ret
                                exact ⟨by first | rfl | (simp [errW_none, errW_some] <;> rfl) | (simp [*, errW_none, errW_some] <;> rfl), by repeat (first | (with_reducible first | exact HB.out | apply below_alloc | apply pw_below_drewN | apply below_drew1 | refine below_set ?_ GE244.out | refine below_set ?_ GE252.out | refine below_set ?_ GE271.out) | exact HB.out)⟩
                              · rw [if_neg c96] at H
                                have c96b0 : (t273 == t261) = false := beq_eq_false_iff_ne.mpr c96
                                have c96b1 : (t273 != t261) = true := bne_iff_ne.mpr c96
                                obtain rfl := Option.some.inj H
                                go_wp2
                                go_ret
                                exact ⟨by first | rfl | (simp [errW_none, errW_some] <;> rfl) | (simp [*, errW_none, errW_some] <;> rfl), by repeat (first | (with_reducible first | exact HB.out | apply below_alloc | apply pw_below_drewN | apply below_drew1 | refine below_set ?_ GE244.out | refine below_set ?_ GE252.out | refine below_set ?_ GE271.out) | exact HB.out)⟩
                    · rw [if_neg c62] at H
                      have c62b0 : (t263 == t261) = false := beq_eq_false_iff_ne.mpr c62
                      have c62b1 : (t263 != t261) = true := bne_iff_ne.mpr c62
                      obtain rfl := Option.some.inj H
                      go_wp2
                      go_ret
                      exact ⟨by first | rfl | (simp [errW_none, errW_some] <;> rfl) | (simp [*, errW_none, errW_some] <;> rfl), by repeat (first | (with_reducible first | exact HB.out | apply below_alloc | apply pw_below_drewN | apply below_drew1 | refine below_set ?_ GE244.out | refine below_set ?_ GE252.out) | exact HB.out)⟩
          · replace c37 := Bool.eq_false_iff.mpr c37
            subst c37
            have H1 : (some false) = some r := by rw [if_neg (show ¬ (false = true) by decide)] at H; exact H
            clear H
            have H := H1
            clear H1
            obtain rfl := Option.some.inj H
            go_wp2
            go_ret
            exact ⟨by first | rfl | (simp [errW_none, errW_some] <;> rfl) | (simp [*, errW_none, errW_some] <;> rfl), by repeat (first | (with_reducible first | exact HB.out | apply below_alloc | apply pw_below_drewN | apply below_drew1 | refine below_set ?_ GE244.out | refine below_set ?_ GE252.out) | exact HB.out)⟩

/-- THE ONE PURE STATEMENT of laws_FnExactFormatShelf: yours. -/
def laws_FnExactFormatShelf.Pure : Prop := ∀ (l0 : List Int), l0.length ≤ maxLen → l0.length * 8 ≤ 140737488351232 → (∀ x ∈ l0, (Lit.int .i64 x).wf = true) → ∃ k, laws_FnExactFormatShelf.f k l0 = some true
theorem laws_FnExactFormatShelf.walk (P : laws_FnExactFormatShelf.Pure) (a0 : Option Addr) (len0 cap0 : Nat) (z0 : List Int) (w : World) (w0 : (a0 = none ∧ len0 = 0 ∧ cap0 = 0 ∧ z0 = []) ∨ ∃ x, a0 = some x ∧ len0 ≤ cap0 ∧ cap0 ≤ maxLen ∧ z0.length = cap0 ∧ (∀ i, i < z0.length → w.cell? (x.add i) = some (.int .i64 (z0.getD i 0))) ∧ ∀ n ∈ z0, (Lit.int .i64 n).wf = true) (y0 : len0 * 8 ≤ 140737488351232) :
    Calls Tryd.prog 3 #[.slice a0 len0 cap0] w fun e w' => e = .returned (.bool true) ∧ Below w.heap.size w w' := by
  obtain ⟨l0, rfl, hr0, hm0, hw0, hc0⟩ := ReadsInt.ofRowC w0
  obtain ⟨k, h⟩ := P l0 hm0 y0 hw0
  refine (laws_FnExactFormatShelf.calls k _ _ l0 true w (Kd.C_of_reads (d := (0 : Int)) (h1 := fun _ => rfl) hr0) hc0 h).mono ?_
  rintro e w' ⟨rfl, hd⟩
  exact ⟨rfl, hd⟩

end Go.Proofs.YtbcgnncbiblibaaDoor.PFnExactFormatShelf
