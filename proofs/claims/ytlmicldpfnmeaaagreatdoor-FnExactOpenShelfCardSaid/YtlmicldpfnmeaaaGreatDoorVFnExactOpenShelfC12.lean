/- Contracts of the Go functions that this law reaches: what each call returns, by its plain function. No conditions but those that each statement names. By this repo's programs; comments are taken out. -/
import Derived.Test.YtlmicldpfnmeaaaGreatDoorVFnExactOpenShelfD
import Derived.Test.YtlmicldpfnmeaaaGreatDoorVFnExactOpenShelfC6
import Derived.Test.YtlmicldpfnmeaaaGreatDoorVFnExactOpenShelfC8
import Derived.Test.YtlmicldpfnmeaaaGreatDoorVFnExactOpenShelfC9
import Derived.Test.YtlmicldpfnmeaaaGreatDoorVFnExactOpenShelfC11
set_option linter.all false
namespace Go.Ev
open Go.RowKit Go.Proofs Go.Proofs.YtlmicldpfnmeaaaGreatDoorW.PrintWords Go.Proofs.YtlmicldpfnmeaaaGreatDoorW.PrintLast Go.Proofs.YtlmicldpfnmeaaaGreatDoorW.PrintMore
theorem impl_OpenShelf.l0_s {k : Nat} {x49 : List Int} {x50 : Int} {x51 : Int} {y1_0 : List S122} {y2_0 : List Int} {y2_1 : Int} {y2_2 : Int} {y2_3 : Int} {y2_4 : List Int} {y2_5 : List S145} {y2_6 : Int} {y7_1 : Int} {y7_2 : Int} {y7_3 : Int} {y7_4 : List Int} {r : _} (h : impl_OpenShelf.l0 k x49 x50 x51 y1_0 y2_0 y2_1 y2_2 y2_3 y2_4 y2_5 y2_6 y7_1 y7_2 y7_3 y7_4 = some r) : ∃ m, k = m + 1 ∧ impl_OpenShelf.l0 (m + 1) x49 x50 x51 y1_0 y2_0 y2_1 y2_2 y2_3 y2_4 y2_5 y2_6 y7_1 y7_2 y7_3 y7_4 = some r := by
  cases k with
  | zero => simp [impl_OpenShelf.l0] at h
  | succ m => exact ⟨m, rfl, h⟩
theorem impl_OpenShelf.l1_s {k : Nat} {x14 : List S119} {x15 : List S145} {x74 : List Int} {x75 : Int} {x76 : Int} {y1_0 : List S122} {y2_0 : List Int} {y2_1 : Int} {y2_2 : Int} {y2_3 : Int} {y2_4 : List Int} {y2_5 : List S145} {y2_6 : Int} {y7_1 : Int} {y7_2 : Int} {y7_3 : Int} {y7_4 : List Int} {y13_1 : Int} {y13_2 : Int} {y13_3 : Int} {y13_5 : List S145} {y13_6 : Int} {r : _} (h : impl_OpenShelf.l1 k x14 x15 x74 x75 x76 y1_0 y2_0 y2_1 y2_2 y2_3 y2_4 y2_5 y2_6 y7_1 y7_2 y7_3 y7_4 y13_1 y13_2 y13_3 y13_5 y13_6 = some r) : ∃ m, k = m + 1 ∧ impl_OpenShelf.l1 (m + 1) x14 x15 x74 x75 x76 y1_0 y2_0 y2_1 y2_2 y2_3 y2_4 y2_5 y2_6 y7_1 y7_2 y7_3 y7_4 y13_1 y13_2 y13_3 y13_5 y13_6 = some r := by
  cases k with
  | zero => simp [impl_OpenShelf.l1] at h
  | succ m => exact ⟨m, rfl, h⟩
set_option maxRecDepth 100000 in
set_option maxHeartbeats 4000000 in
theorem impl_OpenShelf.con (E : En) (hE : E = E0) {k : Nat} {l0_0 : List S122} {r1 : List Int} {r2 : Int} {r3 : Int} {r4 : Int} {r5 : List Int} {r6 : List S145} {r7 : Int} {r8 : List S119} {r9 : Int} (H : impl_OpenShelf.f k l0_0 = some (r1, r2, r3, r4, r5, r6, r7, r8, r9)) :
    Con Tryz.prog TBX 21 [.agg [.c (.sl [.str, .str] (E.e122 l0_0))]] [] (.tup [.agg [.own 0, .c (.int .i64 r2), .c (.int .i64 r3), .c (.int .i64 r4), .own 1, .own 2, .c (.int .i64 r7)], .own 3, .c (.int .i64 r9)]) [.row false 3 [.int .i64] (E.eI .i64 r1), .row false 3 [.int .i64] (E.eI .i64 r5), .row false 145 [.str, .int .i64, .int .i64, .int .i64] (E.e145 r6), .row false 119 [.int .i64, .str, .str, .str] (E.e119 r8)] [] := by
  refine con_of Tryz.func21 rfl (by kernel_rfl) tabOkM [400040, 400044, 400045, 20003] (Nat.le_of_ble_eq_true rfl) (fun F hF Q hQ hQn => ?_)
  simp only [impl_OpenShelf.f] at H
  (conv => cbv)
  repeat' first
    | replace H := s_ H
    | (rw [itn_iff] at H; obtain ⟨hc, H⟩ := H)
    | (rw [itn2_iff] at H; obtain ⟨hc, H⟩ := H)
    | ((with_reducible refine br_ hF (fun hb => ?_) (fun hb => ?_)) <;> ((try simp only [hF, hE] at hb); (try simp only [hs, vs] at hb); first | rw [if_pos hb] at H | rw [if_neg hb] at H | rw [if_nn hb] at H | replace H := i_ hb H | (simp only [hb, not_t, b_f, not_true_eq_false, not_false_eq_true, Bool.not_true, Bool.not_false, Bool.false_eq_true, if_true, if_false] at H) | skip) <;> (try (conv => cbv)))
    | (refine w_ hF ?_; (try (conv => cbv)))
    | ((with_reducible show Hd.call F 78 _ _ _); rw [bind_iff] at H; obtain ⟨y, hy, H⟩ := H; (try dsimp only at H); refine call_ hF (impl_DiskOk.con E hE hy) f_ f_ ?_; (try (conv => cbv)))
    | ((with_reducible show Hd.call F 68 _ _ _); rw [bind_iff] at H; obtain ⟨⟨y1, y2⟩, hy, H⟩ := H; (try dsimp only at H); refine call_ hF (impl_FileAt.con E hE hy) f_ f_ ?_; (try (conv => cbv)))
    | ((with_reducible show Hd.call F 79 _ _ _); rw [bind_iff] at H; obtain ⟨⟨y1, y2, y3, y4, y5, y6⟩, hy, H⟩ := H; (try dsimp only at H); refine call_ hF (impl_ReadManifest.con E hE hy) f_ f_ ?_; (try (conv => cbv)))
    | ((with_reducible show Hd.call F 69 _ _ _); rw [bind_iff] at H; obtain ⟨y, hy, H⟩ := H; (try dsimp only at H); refine call_ hF (impl_SegName.con E hE hy) f_ f_ ?_; (try (conv => cbv)))
    | ((with_reducible show Hd.call F 80 _ _ _); rw [bind_iff] at H; obtain ⟨y, hy, H⟩ := H; (try dsimp only at H); refine call_ hF (impl_cleaning.con E hE hy) f_ f_ ?_; (try (conv => cbv)))
    | ((with_reducible show Hd.call F 81 _ _ _); rw [bind_iff] at H; obtain ⟨⟨y1, y2, y3⟩, hy, H⟩ := H; (try dsimp only at H); refine call_ hF (impl_ScanSeg.con E hE hy) f_ f_ ?_; (try (conv => cbv)))
    | ((with_reducible show Hd.call F 70 _ _ _); rw [bind_iff] at H; obtain ⟨⟨y1, y2⟩, hy, H⟩ := H; (try dsimp only at H); refine call_ hF (impl_batchesOf.con E hE hy) f_ f_ ?_; (try (conv => cbv)))
    | ((with_reducible show Hd.call F 82 _ _ _); rw [bind_iff] at H; obtain ⟨⟨y1, y2⟩, hy, H⟩ := H; (try dsimp only at H); refine call_ hF (impl_DirMore.con E hE hy) f_ f_ ?_; (try (conv => cbv)))
    | ((with_reducible refine loop_ hF (fun n t => n ≤ k ∧ ∃ (x49 : List Int) (x50 : Int) (x51 : Int) (y1_0 : List S122) (y2_0 : List Int) (y2_1 : Int) (y2_2 : Int) (y2_3 : Int) (y2_4 : List Int) (y2_5 : List S145) (y2_6 : Int) (y7_1 : Int) (y7_2 : Int) (y7_3 : Int) (y7_4 : List Int), t = At 147 [(1, .ptr 1 0), (2, .ptr 2 0), (7, .ptr 7 0), (49, .own 20049), (50, .c (.int .i64 x50)), (51, .c (.int .i64 x51))] [(1, .box [.c (.sl [.str, .str] (E.e122 y1_0))]), (2, .box [.own 400040, .c (.int .i64 y2_1), .c (.int .i64 y2_2), .c (.int .i64 y2_3), .own 400044, .own 400045, .c (.int .i64 y2_6)]), (7, .box [.own 20049, .c (.int .i64 y7_1), .c (.int .i64 y7_2), .c (.int .i64 y7_3), .own 400144]), (20049, .row false 3 [.int .i64] (E.eI .i64 x49)), (400040, .row false 3 [.int .i64] (E.eI .i64 y2_0)), (400044, .row false 3 [.int .i64] (E.eI .i64 y2_4)), (400045, .row false 145 [.str, .int .i64, .int .i64, .int .i64] (E.e145 y2_5)), (400144, .row false 3 [.int .i64] (E.eI .i64 y7_4))] ∧ impl_OpenShelf.l0 n x49 x50 x51 y1_0 y2_0 y2_1 y2_2 y2_3 y2_4 y2_5 y2_6 y7_1 y7_2 y7_3 y7_4 = some (r1, r2, r3, r4, r5, r6, r7, r8, r9)) _ (head_ ⟨[1, 2, 7, 49, 50, 51], [1, 2, 7], [(49, 3)], [(2, 0, 3), (2, 4, 3), (2, 5, 145), (7, 4, 3)]⟩ ⟨by omega, _, _, _, _, _, _, _, _, _, _, _, _, _, _, _, rfl, H⟩ (by cbv) f_ f_) (fun n0 t ht Q0 hN0 hX0 => ?_)); obtain ⟨hle0, x49, x50, x51, y1_0, y2_0, y2_1, y2_2, y2_3, y2_4, y2_5, y2_6, y7_1, y7_2, y7_3, y7_4, rfl, H⟩ := ht; obtain ⟨m, hm, H⟩ := impl_OpenShelf.l0_s H; simp only [impl_OpenShelf.l0] at H; (try (conv => cbv)))
    | ((with_reducible refine hN0 _ ⟨_, ?lt, head_ ⟨[1, 2, 7, 49, 50, 51], [1, 2, 7], [(49, 3)], [(2, 0, 3), (2, 4, 3), (2, 5, 145), (7, 4, 3)]⟩ ⟨by omega, _, _, _, _, _, _, _, _, _, _, _, _, _, _, _, rfl, H⟩ (by cbv) f_ f_⟩); (case lt => omega))
    | ((with_reducible refine hX0 _ _ ne_ret ?_); (try (conv => cbv)))
    | ((with_reducible refine hX0 _ _ (ne_exit _) ?_); (try (conv => cbv)))
    | ((with_reducible refine loop_ hF (fun n t => n ≤ k ∧ ∃ (x14 : List S119) (x15 : List S145) (x74 : List Int) (x75 : Int) (x76 : Int) (y1_0 : List S122) (y2_0 : List Int) (y2_1 : Int) (y2_2 : Int) (y2_3 : Int) (y2_4 : List Int) (y2_5 : List S145) (y2_6 : Int) (y7_1 : Int) (y7_2 : Int) (y7_3 : Int) (y7_4 : List Int) (y13_1 : Int) (y13_2 : Int) (y13_3 : Int) (y13_5 : List S145) (y13_6 : Int), t = At 147 [(1, .ptr 1 0), (2, .ptr 2 0), (7, .ptr 7 0), (13, .ptr 13 0), (14, .own 20014), (15, .own 20015), (74, .own 20074), (75, .c (.int .i64 x75)), (76, .c (.int .i64 x76))] [(1, .box [.c (.sl [.str, .str] (E.e122 y1_0))]), (2, .box [.own 400040, .c (.int .i64 y2_1), .c (.int .i64 y2_2), .c (.int .i64 y2_3), .own 400044, .own 400045, .c (.int .i64 y2_6)]), (7, .box [.own 20074, .c (.int .i64 y7_1), .c (.int .i64 y7_2), .c (.int .i64 y7_3), .own 400144]), (13, .box [.own 20074, .c (.int .i64 y13_1), .c (.int .i64 y13_2), .c (.int .i64 y13_3), .own 400144, .own 400265, .c (.int .i64 y13_6)]), (20014, .row false 119 [.int .i64, .str, .str, .str] (E.e119 x14)), (20015, .row false 145 [.str, .int .i64, .int .i64, .int .i64] (E.e145 x15)), (20074, .row false 3 [.int .i64] (E.eI .i64 x74)), (400040, .row false 3 [.int .i64] (E.eI .i64 y2_0)), (400044, .row false 3 [.int .i64] (E.eI .i64 y2_4)), (400045, .row false 145 [.str, .int .i64, .int .i64, .int .i64] (E.e145 y2_5)), (400144, .row false 3 [.int .i64] (E.eI .i64 y7_4)), (400265, .row false 145 [.str, .int .i64, .int .i64, .int .i64] (E.e145 y13_5))] ∧ impl_OpenShelf.l1 n x14 x15 x74 x75 x76 y1_0 y2_0 y2_1 y2_2 y2_3 y2_4 y2_5 y2_6 y7_1 y7_2 y7_3 y7_4 y13_1 y13_2 y13_3 y13_5 y13_6 = some (r1, r2, r3, r4, r5, r6, r7, r8, r9)) _ (head_ ⟨[1, 2, 7, 13, 14, 15, 74, 75, 76], [1, 2, 7, 13], [(14, 119), (15, 145), (74, 3)], [(2, 0, 3), (2, 4, 3), (2, 5, 145), (7, 4, 3), (13, 5, 145)]⟩ ⟨by omega, _, _, _, _, _, _, _, _, _, _, _, _, _, _, _, _, _, _, _, _, _, _, rfl, H⟩ (by cbv) f_ f_) (fun n1 t ht Q1 hN1 hX1 => ?_)); obtain ⟨hle1, x14, x15, x74, x75, x76, y1_0, y2_0, y2_1, y2_2, y2_3, y2_4, y2_5, y2_6, y7_1, y7_2, y7_3, y7_4, y13_1, y13_2, y13_3, y13_5, y13_6, rfl, H⟩ := ht; obtain ⟨m, hm, H⟩ := impl_OpenShelf.l1_s H; simp only [impl_OpenShelf.l1] at H; (try (conv => cbv)))
    | ((with_reducible refine hN1 _ ⟨_, ?lt, head_ ⟨[1, 2, 7, 13, 14, 15, 74, 75, 76], [1, 2, 7, 13], [(14, 119), (15, 145), (74, 3)], [(2, 0, 3), (2, 4, 3), (2, 5, 145), (7, 4, 3), (13, 5, 145)]⟩ ⟨by omega, _, _, _, _, _, _, _, _, _, _, _, _, _, _, _, _, _, _, _, _, _, _, rfl, H⟩ (by cbv) f_ f_⟩); (case lt => omega))
    | ((with_reducible refine hX1 _ _ ne_ret ?_); (try (conv => cbv)))
    | ((with_reducible refine hX1 _ _ (ne_exit _) ?_); (try (conv => cbv)))
    | ((with_reducible first | refine end_ ⟨[2, 3, 4], [2], [(3, 119)], [(2, 0, 3), (2, 4, 3), (2, 5, 145)]⟩ 147 hQ (by cbv) ?_ | refine end_ ⟨[2, 3, 4], [2], [(3, 119)], [(2, 0, 3), (2, 4, 3), (2, 5, 145)]⟩ 147 hQn (by cbv) ?_); (with_reducible have hS := Option.some.inj H); clear hS; cases H; exact f_)
    | contradiction
theorem laws_eqIntS.l0_s {k : Nat} {x0 : List Int} {x1 : List Int} {x5 : Int} {r : _} (h : laws_eqIntS.l0 k x0 x1 x5 = some r) : ∃ m, k = m + 1 ∧ laws_eqIntS.l0 (m + 1) x0 x1 x5 = some r := by
  cases k with
  | zero => simp [laws_eqIntS.l0] at h
  | succ m => exact ⟨m, rfl, h⟩
set_option maxRecDepth 100000 in
set_option maxHeartbeats 4000000 in
theorem laws_eqIntS.con (E : En) (hE : E = E0) {k : Nat} {l0 : List Int} {l1 : List Int} {r : Bool} (H : laws_eqIntS.f k l0 l1 = some (r)) :
    Con Tryz.prog TBX 46 [.c (.sl [.int .i64] (E.eI .i64 l0)), .c (.sl [.int .i64] (E.eI .i64 l1))] [] (.c (.bool r)) [] [] := by
  refine con_of Tryz.func46 rfl (by kernel_rfl) tabOk [] (Nat.le_of_ble_eq_true rfl) (fun F hF Q hQ hQn => ?_)
  simp only [laws_eqIntS.f] at H
  (conv => cbv)
  repeat' first
    | replace H := s_ H
    | (rw [itn_iff] at H; obtain ⟨hc, H⟩ := H)
    | (rw [itn2_iff] at H; obtain ⟨hc, H⟩ := H)
    | ((with_reducible refine br_ hF (fun hb => ?_) (fun hb => ?_)) <;> ((try simp only [hF, hE] at hb); (try simp only [hs, vs] at hb); first | rw [if_pos hb] at H | rw [if_neg hb] at H | rw [if_nn hb] at H | replace H := i_ hb H | (simp only [hb, not_t, b_f, not_true_eq_false, not_false_eq_true, Bool.not_true, Bool.not_false, Bool.false_eq_true, if_true, if_false] at H) | skip) <;> (try (conv => cbv)))
    | (refine w_ hF ?_; (try (conv => cbv)))
    | ((with_reducible refine loop_ hF (fun n t => n ≤ k ∧ ∃ (x0 : List Int) (x1 : List Int) (x5 : Int), t = At 26 [(0, .c (.sl [.int .i64] (E.eI .i64 x0))), (1, .c (.sl [.int .i64] (E.eI .i64 x1))), (5, .c (.int .i64 x5))] [] ∧ laws_eqIntS.l0 n x0 x1 x5 = some (r)) _ (head_ ⟨[0, 1, 5], [], [], []⟩ ⟨by omega, _, _, _, rfl, H⟩ (by cbv) f_ f_) (fun n0 t ht Q0 hN0 hX0 => ?_)); obtain ⟨hle0, x0, x1, x5, rfl, H⟩ := ht; obtain ⟨m, hm, H⟩ := laws_eqIntS.l0_s H; simp only [laws_eqIntS.l0] at H; (try (conv => cbv)))
    | ((with_reducible refine hN0 _ ⟨_, ?lt, head_ ⟨[0, 1, 5], [], [], []⟩ ⟨by omega, _, _, _, rfl, H⟩ (by cbv) f_ f_⟩); (case lt => omega))
    | ((with_reducible refine hX0 _ _ ne_ret ?_); (try (conv => cbv)))
    | ((with_reducible refine hX0 _ _ (ne_exit _) ?_); (try (conv => cbv)))
    | ((with_reducible first | refine end_ ⟨[4], [], [], []⟩ 26 hQ (by cbv) ?_ | refine end_ ⟨[4], [], [], []⟩ 26 hQn (by cbv) ?_); (with_reducible have hS := Option.some.inj H); clear hS; cases H; exact f_)
    | contradiction
set_option maxRecDepth 100000 in
set_option maxHeartbeats 4000000 in
theorem laws_eqManifest.con (E : En) (hE : E = E0) {k : Nat} {l0_0 : List Int} {a0_1 : Int} {a0_2 : Int} {a0_3 : Int} {l0_4 : List Int} {l1_0 : List Int} {a1_1 : Int} {a1_2 : Int} {a1_3 : Int} {l1_4 : List Int} {r : Bool} (H : laws_eqManifest.f k l0_0 a0_1 a0_2 a0_3 l0_4 l1_0 a1_1 a1_2 a1_3 l1_4 = some (r)) :
    Con Tryz.prog TBX 72 [.agg [.c (.sl [.int .i64] (E.eI .i64 l0_0)), .c (.int .i64 a0_1), .c (.int .i64 a0_2), .c (.int .i64 a0_3), .c (.sl [.int .i64] (E.eI .i64 l0_4))], .agg [.c (.sl [.int .i64] (E.eI .i64 l1_0)), .c (.int .i64 a1_1), .c (.int .i64 a1_2), .c (.int .i64 a1_3), .c (.sl [.int .i64] (E.eI .i64 l1_4))]] [] (.c (.bool r)) [] [] := by
  refine con_of Tryz.func72 rfl (by kernel_rfl) tabOk [] (Nat.le_of_ble_eq_true rfl) (fun F hF Q hQ hQn => ?_)
  simp only [laws_eqManifest.f] at H
  (conv => cbv)
  repeat' first
    | replace H := s_ H
    | (rw [itn_iff] at H; obtain ⟨hc, H⟩ := H)
    | (rw [itn2_iff] at H; obtain ⟨hc, H⟩ := H)
    | ((with_reducible refine br_ hF (fun hb => ?_) (fun hb => ?_)) <;> ((try simp only [hF, hE] at hb); (try simp only [hs, vs] at hb); first | rw [if_pos hb] at H | rw [if_neg hb] at H | rw [if_nn hb] at H | replace H := i_ hb H | (simp only [hb, not_t, b_f, not_true_eq_false, not_false_eq_true, Bool.not_true, Bool.not_false, Bool.false_eq_true, if_true, if_false] at H) | skip) <;> (try (conv => cbv)))
    | (refine w_ hF ?_; (try (conv => cbv)))
    | ((with_reducible show Hd.call F 46 _ _ _); rw [bind_iff] at H; obtain ⟨y, hy, H⟩ := H; (try dsimp only at H); refine call_ hF (laws_eqIntS.con E hE hy) f_ f_ ?_; (try (conv => cbv)))
    | ((with_reducible first | refine end_ ⟨[4], [], [], []⟩ 32 hQ (by cbv) ?_ | refine end_ ⟨[4], [], [], []⟩ 32 hQn (by cbv) ?_); (with_reducible have hS := Option.some.inj H); clear hS; cases H; exact f_)
    | contradiction
set_option maxRecDepth 100000 in
set_option maxHeartbeats 4000000 in
theorem laws_eqSpot.con (E : En) (hE : E = E0) {a0_0 : ByteArray} {a0_1 : Int} {a0_2 : Int} {a0_3 : Int} {a1_0 : ByteArray} {a1_1 : Int} {a1_2 : Int} {a1_3 : Int} {r : Bool} (H : laws_eqSpot.f a0_0 a0_1 a0_2 a0_3 a1_0 a1_1 a1_2 a1_3 = some (r)) :
    Con Tryz.prog TBX 149 [.agg [.c (.str a0_0), .c (.int .i64 a0_1), .c (.int .i64 a0_2), .c (.int .i64 a0_3)], .agg [.c (.str a1_0), .c (.int .i64 a1_1), .c (.int .i64 a1_2), .c (.int .i64 a1_3)]] [] (.c (.bool r)) [] [] := by
  refine con_of Tryz.func149 rfl (by kernel_rfl) tabOk [] (Nat.le_of_ble_eq_true rfl) (fun F hF Q hQ hQn => ?_)
  simp only [laws_eqSpot.f] at H
  (conv => cbv)
  repeat' first
    | replace H := s_ H
    | (rw [itn_iff] at H; obtain ⟨hc, H⟩ := H)
    | (rw [itn2_iff] at H; obtain ⟨hc, H⟩ := H)
    | ((with_reducible refine br_ hF (fun hb => ?_) (fun hb => ?_)) <;> ((try simp only [hF, hE] at hb); (try simp only [hs, vs] at hb); first | rw [if_pos hb] at H | rw [if_neg hb] at H | rw [if_nn hb] at H | replace H := i_ hb H | (simp only [hb, not_t, b_f, not_true_eq_false, not_false_eq_true, Bool.not_true, Bool.not_false, Bool.false_eq_true, if_true, if_false] at H) | skip) <;> (try (conv => cbv)))
    | (refine w_ hF ?_; (try (conv => cbv)))
    | ((with_reducible first | refine end_ ⟨[4], [], [], []⟩ 25 hQ (by cbv) ?_ | refine end_ ⟨[4], [], [], []⟩ 25 hQn (by cbv) ?_); (with_reducible have hS := Option.some.inj H); clear hS; cases H; exact f_)
    | contradiction
theorem laws_eqSpotS.l0_s {k : Nat} {x0 : List S145} {x1 : List S145} {x5 : Int} {r : _} (h : laws_eqSpotS.l0 k x0 x1 x5 = some r) : ∃ m, k = m + 1 ∧ laws_eqSpotS.l0 (m + 1) x0 x1 x5 = some r := by
  cases k with
  | zero => simp [laws_eqSpotS.l0] at h
  | succ m => exact ⟨m, rfl, h⟩
set_option maxRecDepth 100000 in
set_option maxHeartbeats 4000000 in
theorem laws_eqSpotS.con (E : En) (hE : E = E0) {k : Nat} {l0 : List S145} {l1 : List S145} {r : Bool} (H : laws_eqSpotS.f k l0 l1 = some (r)) :
    Con Tryz.prog TBX 73 [.c (.sl [.str, .int .i64, .int .i64, .int .i64] (E.e145 l0)), .c (.sl [.str, .int .i64, .int .i64, .int .i64] (E.e145 l1))] [] (.c (.bool r)) [] [] := by
  refine con_of Tryz.func73 rfl (by kernel_rfl) tabOk [] (Nat.le_of_ble_eq_true rfl) (fun F hF Q hQ hQn => ?_)
  simp only [laws_eqSpotS.f] at H
  (conv => cbv)
  repeat' first
    | replace H := s_ H
    | (rw [itn_iff] at H; obtain ⟨hc, H⟩ := H)
    | (rw [itn2_iff] at H; obtain ⟨hc, H⟩ := H)
    | ((with_reducible refine br_ hF (fun hb => ?_) (fun hb => ?_)) <;> ((try simp only [hF, hE] at hb); (try simp only [hs, vs] at hb); first | rw [if_pos hb] at H | rw [if_neg hb] at H | rw [if_nn hb] at H | replace H := i_ hb H | (simp only [hb, not_t, b_f, not_true_eq_false, not_false_eq_true, Bool.not_true, Bool.not_false, Bool.false_eq_true, if_true, if_false] at H) | skip) <;> (try (conv => cbv)))
    | (refine w_ hF ?_; (try (conv => cbv)))
    | ((with_reducible show Hd.call F 149 _ _ _); rw [bind_iff] at H; obtain ⟨y, hy, H⟩ := H; (try dsimp only at H); refine call_ hF (laws_eqSpot.con E hE hy) f_ f_ ?_; (try (conv => cbv)))
    | ((with_reducible refine loop_ hF (fun n t => n ≤ k ∧ ∃ (x0 : List S145) (x1 : List S145) (x5 : Int), t = At 27 [(0, .c (.sl [.str, .int .i64, .int .i64, .int .i64] (E.e145 x0))), (1, .c (.sl [.str, .int .i64, .int .i64, .int .i64] (E.e145 x1))), (5, .c (.int .i64 x5))] [] ∧ laws_eqSpotS.l0 n x0 x1 x5 = some (r)) _ (head_ ⟨[0, 1, 5], [], [], []⟩ ⟨by omega, _, _, _, rfl, H⟩ (by cbv) f_ f_) (fun n0 t ht Q0 hN0 hX0 => ?_)); obtain ⟨hle0, x0, x1, x5, rfl, H⟩ := ht; obtain ⟨m, hm, H⟩ := laws_eqSpotS.l0_s H; simp only [laws_eqSpotS.l0] at H; (try (conv => cbv)))
    | ((with_reducible refine hN0 _ ⟨_, ?lt, head_ ⟨[0, 1, 5], [], [], []⟩ ⟨by omega, _, _, _, rfl, H⟩ (by cbv) f_ f_⟩); (case lt => omega))
    | ((with_reducible refine hX0 _ _ ne_ret ?_); (try (conv => cbv)))
    | ((with_reducible refine hX0 _ _ (ne_exit _) ?_); (try (conv => cbv)))
    | ((with_reducible first | refine end_ ⟨[4], [], [], []⟩ 27 hQ (by cbv) ?_ | refine end_ ⟨[4], [], [], []⟩ 27 hQn (by cbv) ?_); (with_reducible have hS := Option.some.inj H); clear hS; cases H; exact f_)
    | contradiction
set_option maxRecDepth 100000 in
set_option maxHeartbeats 4000000 in
theorem laws_eqShelf.con (E : En) (hE : E = E0) {k : Nat} {l0_0 : List Int} {a0_1 : Int} {a0_2 : Int} {a0_3 : Int} {l0_4 : List Int} {l0_5 : List S145} {a0_6 : Int} {l1_0 : List Int} {a1_1 : Int} {a1_2 : Int} {a1_3 : Int} {l1_4 : List Int} {l1_5 : List S145} {a1_6 : Int} {r : Bool} (H : laws_eqShelf.f k l0_0 a0_1 a0_2 a0_3 l0_4 l0_5 a0_6 l1_0 a1_1 a1_2 a1_3 l1_4 l1_5 a1_6 = some (r)) :
    Con Tryz.prog TBX 19 [.agg [.c (.sl [.int .i64] (E.eI .i64 l0_0)), .c (.int .i64 a0_1), .c (.int .i64 a0_2), .c (.int .i64 a0_3), .c (.sl [.int .i64] (E.eI .i64 l0_4)), .c (.sl [.str, .int .i64, .int .i64, .int .i64] (E.e145 l0_5)), .c (.int .i64 a0_6)], .agg [.c (.sl [.int .i64] (E.eI .i64 l1_0)), .c (.int .i64 a1_1), .c (.int .i64 a1_2), .c (.int .i64 a1_3), .c (.sl [.int .i64] (E.eI .i64 l1_4)), .c (.sl [.str, .int .i64, .int .i64, .int .i64] (E.e145 l1_5)), .c (.int .i64 a1_6)]] [] (.c (.bool r)) [] [] := by
  refine con_of Tryz.func19 rfl (by kernel_rfl) tabOk [] (Nat.le_of_ble_eq_true rfl) (fun F hF Q hQ hQn => ?_)
  simp only [laws_eqShelf.f] at H
  (conv => cbv)
  repeat' first
    | replace H := s_ H
    | (rw [itn_iff] at H; obtain ⟨hc, H⟩ := H)
    | (rw [itn2_iff] at H; obtain ⟨hc, H⟩ := H)
    | ((with_reducible refine br_ hF (fun hb => ?_) (fun hb => ?_)) <;> ((try simp only [hF, hE] at hb); (try simp only [hs, vs] at hb); first | rw [if_pos hb] at H | rw [if_neg hb] at H | rw [if_nn hb] at H | replace H := i_ hb H | (simp only [hb, not_t, b_f, not_true_eq_false, not_false_eq_true, Bool.not_true, Bool.not_false, Bool.false_eq_true, if_true, if_false] at H) | skip) <;> (try (conv => cbv)))
    | (refine w_ hF ?_; (try (conv => cbv)))
    | ((with_reducible show Hd.call F 72 _ _ _); rw [bind_iff] at H; obtain ⟨y, hy, H⟩ := H; (try dsimp only at H); refine call_ hF (laws_eqManifest.con E hE hy) f_ f_ ?_; (try (conv => cbv)))
    | ((with_reducible show Hd.call F 73 _ _ _); rw [bind_iff] at H; obtain ⟨y, hy, H⟩ := H; (try dsimp only at H); refine call_ hF (laws_eqSpotS.con E hE hy) f_ f_ ?_; (try (conv => cbv)))
    | ((with_reducible first | refine end_ ⟨[4], [], [], []⟩ 22 hQ (by cbv) ?_ | refine end_ ⟨[4], [], [], []⟩ 22 hQn (by cbv) ?_); (with_reducible have hS := Option.some.inj H); clear hS; cases H; exact f_)
    | contradiction
set_option maxRecDepth 100000 in
set_option maxHeartbeats 4000000 in
theorem laws_eqRaw.con (E : En) (hE : E = E0) {a0_0 : Int} {a0_1 : ByteArray} {a0_2 : ByteArray} {a0_3 : ByteArray} {a1_0 : Int} {a1_1 : ByteArray} {a1_2 : ByteArray} {a1_3 : ByteArray} {r : Bool} (H : laws_eqRaw.f a0_0 a0_1 a0_2 a0_3 a1_0 a1_1 a1_2 a1_3 = some (r)) :
    Con Tryz.prog TBX 83 [.agg [.c (.int .i64 a0_0), .c (.str a0_1), .c (.str a0_2), .c (.str a0_3)], .agg [.c (.int .i64 a1_0), .c (.str a1_1), .c (.str a1_2), .c (.str a1_3)]] [] (.c (.bool r)) [] [] := by
  refine con_of Tryz.func83 rfl (by kernel_rfl) tabOk [] (Nat.le_of_ble_eq_true rfl) (fun F hF Q hQ hQn => ?_)
  simp only [laws_eqRaw.f] at H
  (conv => cbv)
  repeat' first
    | replace H := s_ H
    | (rw [itn_iff] at H; obtain ⟨hc, H⟩ := H)
    | (rw [itn2_iff] at H; obtain ⟨hc, H⟩ := H)
    | ((with_reducible refine br_ hF (fun hb => ?_) (fun hb => ?_)) <;> ((try simp only [hF, hE] at hb); (try simp only [hs, vs] at hb); first | rw [if_pos hb] at H | rw [if_neg hb] at H | rw [if_nn hb] at H | replace H := i_ hb H | (simp only [hb, not_t, b_f, not_true_eq_false, not_false_eq_true, Bool.not_true, Bool.not_false, Bool.false_eq_true, if_true, if_false] at H) | skip) <;> (try (conv => cbv)))
    | (refine w_ hF ?_; (try (conv => cbv)))
    | ((with_reducible first | refine end_ ⟨[4], [], [], []⟩ 25 hQ (by cbv) ?_ | refine end_ ⟨[4], [], [], []⟩ 25 hQn (by cbv) ?_); (with_reducible have hS := Option.some.inj H); clear hS; cases H; exact f_)
    | contradiction
end Go.Ev

