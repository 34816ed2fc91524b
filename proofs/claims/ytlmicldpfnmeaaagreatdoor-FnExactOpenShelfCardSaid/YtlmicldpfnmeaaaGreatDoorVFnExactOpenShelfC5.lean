/- Contracts of the Go functions that this law reaches: what each call returns, by its plain function. No conditions but those that each statement names. By this repo's programs; comments are taken out. -/
import Derived.Test.YtlmicldpfnmeaaaGreatDoorVFnExactOpenShelfD
import Derived.Test.YtlmicldpfnmeaaaGreatDoorVFnExactOpenShelfC0
import Derived.Test.YtlmicldpfnmeaaaGreatDoorVFnExactOpenShelfC2
import Derived.Test.YtlmicldpfnmeaaaGreatDoorVFnExactOpenShelfC4
set_option linter.all false
namespace Go.Ev
open Go.RowKit Go.Proofs Go.Proofs.YtlmicldpfnmeaaaGreatDoorW.PrintWords Go.Proofs.YtlmicldpfnmeaaaGreatDoorW.PrintLast Go.Proofs.YtlmicldpfnmeaaaGreatDoorW.PrintMore
theorem spec_l09Load.j0_s {k : Nat} {x39 : Bool} {x412000 : List S122} {x427000 : List Int} {x427001 : Int} {x427002 : Int} {x427003 : Int} {x427004 : List Int} {r : _} (h : spec_l09Load.j0 k x39 x412000 x427000 x427001 x427002 x427003 x427004 = some r) : ∃ m, k = m + 1 ∧ spec_l09Load.j0 (m + 1) x39 x412000 x427000 x427001 x427002 x427003 x427004 = some r := by
  cases k with
  | zero => simp [spec_l09Load.j0] at h
  | succ m => exact ⟨m, rfl, h⟩
theorem spec_l09Load.l0_s {k : Nat} {x10 : Int} {x412000 : List S122} {x427000 : List Int} {x427001 : Int} {x427002 : Int} {x427003 : Int} {x427004 : List Int} {x428000 : List Int} {x428001 : Int} {x428002 : Int} {x428003 : Int} {x428004 : List Int} {x428006 : Int} {r : _} (h : spec_l09Load.l0 k x10 x412000 x427000 x427001 x427002 x427003 x427004 x428000 x428001 x428002 x428003 x428004 x428006 = some r) : ∃ m, k = m + 1 ∧ spec_l09Load.l0 (m + 1) x10 x412000 x427000 x427001 x427002 x427003 x427004 x428000 x428001 x428002 x428003 x428004 x428006 = some r := by
  cases k with
  | zero => simp [spec_l09Load.l0] at h
  | succ m => exact ⟨m, rfl, h⟩
theorem spec_l09Load.l1_s {k : Nat} {x11 : Int} {x12 : Int} {x412000 : List S122} {x427000 : List Int} {x427001 : Int} {x427002 : Int} {x427003 : Int} {x427004 : List Int} {x428000 : List Int} {x428001 : Int} {x428002 : Int} {x428003 : Int} {x428004 : List Int} {x428005 : List S145} {x428006 : Int} {r : _} (h : spec_l09Load.l1 k x11 x12 x412000 x427000 x427001 x427002 x427003 x427004 x428000 x428001 x428002 x428003 x428004 x428005 x428006 = some r) : ∃ m, k = m + 1 ∧ spec_l09Load.l1 (m + 1) x11 x12 x412000 x427000 x427001 x427002 x427003 x427004 x428000 x428001 x428002 x428003 x428004 x428005 x428006 = some r := by
  cases k with
  | zero => simp [spec_l09Load.l1] at h
  | succ m => exact ⟨m, rfl, h⟩
theorem spec_l09Load.l2_s {k : Nat} {x11 : Int} {x12 : Int} {x13 : ByteArray} {x14 : List S145} {x15 : List ByteArray} {x16 : Int} {x17 : Int} {x412000 : List S122} {x427000 : List Int} {x427001 : Int} {x427002 : Int} {x427003 : Int} {x427004 : List Int} {x428000 : List Int} {x428001 : Int} {x428002 : Int} {x428003 : Int} {x428004 : List Int} {x428005 : List S145} {x428006 : Int} {r : _} (h : spec_l09Load.l2 k x11 x12 x13 x14 x15 x16 x17 x412000 x427000 x427001 x427002 x427003 x427004 x428000 x428001 x428002 x428003 x428004 x428005 x428006 = some r) : ∃ m, k = m + 1 ∧ spec_l09Load.l2 (m + 1) x11 x12 x13 x14 x15 x16 x17 x412000 x427000 x427001 x427002 x427003 x427004 x428000 x428001 x428002 x428003 x428004 x428005 x428006 = some r := by
  cases k with
  | zero => simp [spec_l09Load.l2] at h
  | succ m => exact ⟨m, rfl, h⟩
theorem spec_l09Load.j4_s {k : Nat} {x11 : Int} {x12 : Int} {x14 : List S145} {x16 : Int} {x117 : Bool} {x412000 : List S122} {x427000 : List Int} {x427001 : Int} {x427002 : Int} {x427003 : Int} {x427004 : List Int} {x428000 : List Int} {x428001 : Int} {x428002 : Int} {x428003 : Int} {x428004 : List Int} {x428005 : List S145} {x428006 : Int} {r : _} (h : spec_l09Load.j4 k x11 x12 x14 x16 x117 x412000 x427000 x427001 x427002 x427003 x427004 x428000 x428001 x428002 x428003 x428004 x428005 x428006 = some r) : ∃ m, k = m + 1 ∧ spec_l09Load.j4 (m + 1) x11 x12 x14 x16 x117 x412000 x427000 x427001 x427002 x427003 x427004 x428000 x428001 x428002 x428003 x428004 x428005 x428006 = some r := by
  cases k with
  | zero => simp [spec_l09Load.j4] at h
  | succ m => exact ⟨m, rfl, h⟩
theorem spec_l09Load.j0_i {k : Nat} {x39 : Bool} {x412000 : List S122} {x427000 : List Int} {x427001 : Int} {x427002 : Int} {x427003 : Int} {x427004 : List Int} {r : _} : (spec_l09Load.j0 k x39 x412000 x427000 x427001 x427002 x427003 x427004 = some r) = (∃ m, k = m + 1 ∧ spec_l09Load.j0 (m + 1) x39 x412000 x427000 x427001 x427002 x427003 x427004 = some r) := propext ⟨spec_l09Load.j0_s, fun ⟨m, h, h2⟩ => by rw [h]; exact h2⟩
theorem spec_l09Load.j4_i {k : Nat} {x11 : Int} {x12 : Int} {x14 : List S145} {x16 : Int} {x117 : Bool} {x412000 : List S122} {x427000 : List Int} {x427001 : Int} {x427002 : Int} {x427003 : Int} {x427004 : List Int} {x428000 : List Int} {x428001 : Int} {x428002 : Int} {x428003 : Int} {x428004 : List Int} {x428005 : List S145} {x428006 : Int} {r : _} : (spec_l09Load.j4 k x11 x12 x14 x16 x117 x412000 x427000 x427001 x427002 x427003 x427004 x428000 x428001 x428002 x428003 x428004 x428005 x428006 = some r) = (∃ m, k = m + 1 ∧ spec_l09Load.j4 (m + 1) x11 x12 x14 x16 x117 x412000 x427000 x427001 x427002 x427003 x427004 x428000 x428001 x428002 x428003 x428004 x428005 x428006 = some r) := propext ⟨spec_l09Load.j4_s, fun ⟨m, h, h2⟩ => by rw [h]; exact h2⟩
set_option maxRecDepth 100000 in
set_option maxHeartbeats 4000000 in
theorem spec_l09Load.con (E : En) (hE : E = E0) {k : Nat} {l0_0 : List S122} {r1 : List Int} {r2 : Int} {r3 : Int} {r4 : Int} {r5 : List Int} {r6 : List S145} {r7 : Int} {r8 : Int} {r9 : Int} (H : spec_l09Load.f k l0_0 = some (r1, r2, r3, r4, r5, r6, r7, r8, r9)) :
    Con Tryz.prog TBX 74 [.agg [.c (.sl [.str, .str] (E.e122 l0_0))]] [] (.tup [.agg [.own 0, .c (.int .i64 r2), .c (.int .i64 r3), .c (.int .i64 r4), .own 1, .own 2, .c (.int .i64 r7)], .c (.int .i64 r8), .c (.int .i64 r9)]) [.row false 3 [.int .i64] (E.eI .i64 r1), .row false 3 [.int .i64] (E.eI .i64 r5), .row false 145 [.str, .int .i64, .int .i64, .int .i64] (E.e145 r6)] [] := by
  refine con_of Tryz.func74 rfl (by kernel_rfl) tabOk [400040, 400044, 400045] (Nat.le_of_ble_eq_true rfl) (fun F hF Q hQ hQn => ?_)
  simp only [spec_l09Load.f] at H
  (conv => cbv)
  repeat' first
    | (rw [spec_l09Load.j0_i] at H; obtain ⟨m, hm, H⟩ := H; simp only [spec_l09Load.j0] at H; (try simp only [decide_eq_true_eq, Bool.false_eq_true, if_false, if_true] at H))
    | (rw [spec_l09Load.j4_i] at H; obtain ⟨m, hm, H⟩ := H; simp only [spec_l09Load.j4] at H; (try simp only [decide_eq_true_eq, Bool.false_eq_true, if_false, if_true] at H))
    | replace H := s_ H
    | (rw [itn_iff] at H; obtain ⟨hc, H⟩ := H)
    | (rw [itn2_iff] at H; obtain ⟨hc, H⟩ := H)
    | ((with_reducible refine br_ hF (fun hb => ?_) (fun hb => ?_)) <;> ((try simp only [hF, hE] at hb); (try simp only [hs, vs] at hb); first | rw [if_pos hb] at H | rw [if_neg hb] at H | rw [if_nn hb] at H | replace H := i_ hb H | (simp only [hb, not_t, b_f, not_true_eq_false, not_false_eq_true, Bool.not_true, Bool.not_false, Bool.false_eq_true, if_true, if_false] at H) | skip) <;> (try (conv => cbv)))
    | (refine w_ hF ?_; (try (conv => cbv)))
    | ((with_reducible show Hd.call F 60 _ _ _); rw [bind_iff] at H; obtain ⟨y, hy, H⟩ := H; (try dsimp only at H); refine call_ hF (spec_l03Text.con E hE hy) f_ f_ ?_; (try (conv => cbv)))
    | ((with_reducible show Hd.call F 61 _ _ _); rw [bind_iff] at H; obtain ⟨y, hy, H⟩ := H; (try dsimp only at H); refine call_ hF (spec_SegName.con E hE hy) f_ f_ ?_; (try (conv => cbv)))
    | ((with_reducible show Hd.call F 63 _ _ _); rw [bind_iff] at H; obtain ⟨⟨y1, y2⟩, hy, H⟩ := H; (try dsimp only at H); refine call_ hF (spec_Frame.con E hE hy) f_ f_ ?_; (try (conv => cbv)))
    | ((with_reducible show Hd.call F 75 _ _ _); rw [bind_iff] at H; obtain ⟨y, hy, H⟩ := H; (try dsimp only at H); refine call_ hF (spec_l03At.con E hE hy) f_ f_ ?_; (try (conv => cbv)))
    | ((with_reducible show Hd.call F 95 _ _ _); rw [bind_iff] at H; obtain ⟨y, hy, H⟩ := H; (try dsimp only at H); refine call_ hF (spec_DiskOk.con E hE hy) f_ f_ ?_; (try (conv => cbv)))
    | ((with_reducible show Hd.call F 96 _ _ _); rw [bind_iff] at H; obtain ⟨y, hy, H⟩ := H; (try dsimp only at H); refine call_ hF (spec_DirOk.con E hE hy) f_ f_ ?_; (try (conv => cbv)))
    | ((with_reducible show Hd.call F 150 _ _ _); rw [bind_iff] at H; obtain ⟨⟨y1, y2⟩, hy, H⟩ := H; (try dsimp only at H); refine call_ hF (spec_FileAt.con E hE hy) f_ f_ ?_; (try (conv => cbv)))
    | ((with_reducible show Hd.call F 151 _ _ _); rw [bind_iff] at H; obtain ⟨⟨y1, y2, y3, y4, y5, y6⟩, hy, H⟩ := H; (try dsimp only at H); refine call_ hF (spec_ReadManifest.con E hE hy) f_ f_ ?_; (try (conv => cbv)))
    | ((with_reducible show Hd.call F 152 _ _ _); rw [bind_iff] at H; obtain ⟨⟨y1, y2, y3⟩, hy, H⟩ := H; (try dsimp only at H); refine call_ hF (spec_ScanSeg.con E hE hy) f_ f_ ?_; (try (conv => cbv)))
    | ((with_reducible show Hd.call F 153 _ _ _); rw [bind_iff] at H; obtain ⟨y, hy, H⟩ := H; (try dsimp only at H); refine call_ hF (spec_l08More.con E hE hy) f_ f_ ?_; (try (conv => cbv)))
    | ((with_reducible refine loop_ hF (fun n t => n ≤ k ∧ ∃ (x10 : Int) (x412000 : List S122) (x427001 : Int) (x427002 : Int) (x427003 : Int) (x428000 : List Int) (x428001 : Int) (x428002 : Int) (x428003 : Int) (x428004 : List Int) (x428006 : Int), t = At 137 [(1, .ptr 1 0), (2, .ptr 2 0), (7, .ptr 7 0), (9, .ptr 9 0), (10, .c (.int .i64 x10))] [(1, .box [.c (.sl [.str, .str] (E.e122 x412000))]), (2, .box [.own 400040, .c (.int .i64 0), .c (.int .i64 0), .c (.int .i64 0), .own 400044, .own 400045, .c (.int .i64 0)]), (7, .box [.own 400180, .c (.int .i64 x427001), .c (.int .i64 x427002), .c (.int .i64 x427003), .own 400184]), (9, .box [.own 400180, .c (.int .i64 x428001), .c (.int .i64 x428002), .c (.int .i64 x428003), .own 400184, .own 400185, .c (.int .i64 x428006)]), (400040, .row false 3 [.int .i64] []), (400044, .row false 3 [.int .i64] []), (400045, .row false 145 [.str, .int .i64, .int .i64, .int .i64] []), (400180, .row false 3 [.int .i64] (E.eI .i64 x428000)), (400184, .row false 3 [.int .i64] (E.eI .i64 x428004)), (400185, .row false 145 [.str, .int .i64, .int .i64, .int .i64] [])] ∧ spec_l09Load.l0 n x10 x412000 x428000 x427001 x427002 x427003 x428004 x428000 x428001 x428002 x428003 x428004 x428006 = some (r1, r2, r3, r4, r5, r6, r7, r8, r9)) _ (head_ ⟨[1, 2, 7, 9, 10], [1, 2, 7, 9], [], [(2, 0, 3), (2, 4, 3), (2, 5, 145), (9, 0, 3), (9, 4, 3), (9, 5, 145)]⟩ ⟨by omega, _, _, _, _, _, _, _, _, _, _, _, rfl, H⟩ (by cbv) f_ f_) (fun n0 t ht Q0 hN0 hX0 => ?_)); obtain ⟨hle0, x10, x412000, x427001, x427002, x427003, x428000, x428001, x428002, x428003, x428004, x428006, rfl, H⟩ := ht; obtain ⟨m, hm, H⟩ := spec_l09Load.l0_s H; simp only [spec_l09Load.l0] at H; (try (conv => cbv)))
    | ((with_reducible refine hN0 _ ⟨_, ?lt, head_ ⟨[1, 2, 7, 9, 10], [1, 2, 7, 9], [], [(2, 0, 3), (2, 4, 3), (2, 5, 145), (9, 0, 3), (9, 4, 3), (9, 5, 145)]⟩ ⟨by omega, _, _, _, _, _, _, _, _, _, _, _, rfl, H⟩ (by cbv) f_ f_⟩); (case lt => omega))
    | ((with_reducible refine hX0 _ _ ne_ret ?_); (try (conv => cbv)))
    | ((with_reducible refine hX0 _ _ (ne_exit _) ?_); (try (conv => cbv)))
    | ((with_reducible refine loop_ hF (fun n t => n ≤ k ∧ ∃ (x11 : Int) (x12 : Int) (x412000 : List S122) (x427001 : Int) (x427002 : Int) (x427003 : Int) (x428000 : List Int) (x428001 : Int) (x428002 : Int) (x428003 : Int) (x428004 : List Int) (x428005 : List S145) (x428006 : Int), t = At 137 [(1, .ptr 1 0), (2, .ptr 2 0), (7, .ptr 7 0), (9, .ptr 9 0), (11, .c (.int .i64 x11)), (12, .c (.int .i64 x12))] [(1, .box [.c (.sl [.str, .str] (E.e122 x412000))]), (2, .box [.own 400040, .c (.int .i64 0), .c (.int .i64 0), .c (.int .i64 0), .own 400044, .own 400045, .c (.int .i64 0)]), (7, .box [.own 400180, .c (.int .i64 x427001), .c (.int .i64 x427002), .c (.int .i64 x427003), .own 400184]), (9, .box [.own 400180, .c (.int .i64 x428001), .c (.int .i64 x428002), .c (.int .i64 x428003), .own 400184, .own 400185, .c (.int .i64 x428006)]), (400040, .row false 3 [.int .i64] []), (400044, .row false 3 [.int .i64] []), (400045, .row false 145 [.str, .int .i64, .int .i64, .int .i64] []), (400180, .row false 3 [.int .i64] (E.eI .i64 x428000)), (400184, .row false 3 [.int .i64] (E.eI .i64 x428004)), (400185, .row false 145 [.str, .int .i64, .int .i64, .int .i64] (E.e145 x428005))] ∧ spec_l09Load.l1 n x11 x12 x412000 x428000 x427001 x427002 x427003 x428004 x428000 x428001 x428002 x428003 x428004 x428005 x428006 = some (r1, r2, r3, r4, r5, r6, r7, r8, r9)) _ (head_ ⟨[1, 2, 7, 9, 11, 12], [1, 2, 7, 9], [], [(2, 0, 3), (2, 4, 3), (2, 5, 145), (9, 0, 3), (9, 4, 3), (9, 5, 145)]⟩ ⟨by omega, _, _, _, _, _, _, _, _, _, _, _, _, _, rfl, H⟩ (by cbv) f_ f_) (fun n1 t ht Q1 hN1 hX1 => ?_)); obtain ⟨hle1, x11, x12, x412000, x427001, x427002, x427003, x428000, x428001, x428002, x428003, x428004, x428005, x428006, rfl, H⟩ := ht; obtain ⟨m, hm, H⟩ := spec_l09Load.l1_s H; simp only [spec_l09Load.l1] at H; (try (conv => cbv)))
    | ((with_reducible refine hN1 _ ⟨_, ?lt, head_ ⟨[1, 2, 7, 9, 11, 12], [1, 2, 7, 9], [], [(2, 0, 3), (2, 4, 3), (2, 5, 145), (9, 0, 3), (9, 4, 3), (9, 5, 145)]⟩ ⟨by omega, _, _, _, _, _, _, _, _, _, _, _, _, _, rfl, H⟩ (by cbv) f_ f_⟩); (case lt => omega))
    | ((with_reducible refine hX1 _ _ ne_ret ?_); (try (conv => cbv)))
    | ((with_reducible refine hX1 _ _ (ne_exit _) ?_); (try (conv => cbv)))
    | ((with_reducible refine loop_ hF (fun n t => n ≤ n1 ∧ ∃ (x11 : Int) (x12 : Int) (x13 : ByteArray) (x14 : List S145) (x15 : List ByteArray) (x16 : Int) (x17 : Int) (x412000 : List S122) (x427001 : Int) (x427002 : Int) (x427003 : Int) (x428000 : List Int) (x428001 : Int) (x428002 : Int) (x428003 : Int) (x428004 : List Int) (x428005 : List S145) (x428006 : Int), t = At 137 [(1, .ptr 1 0), (2, .ptr 2 0), (7, .ptr 7 0), (9, .ptr 9 0), (11, .c (.int .i64 x11)), (12, .c (.int .i64 x12)), (13, .c (.str x13)), (14, .c (.sl [.str, .int .i64, .int .i64, .int .i64] (E.e145 x14))), (15, .c (.sl [.str] (E.eS x15))), (16, .c (.int .i64 x16)), (17, .c (.int .i64 x17))] [(1, .box [.c (.sl [.str, .str] (E.e122 x412000))]), (2, .box [.own 400040, .c (.int .i64 0), .c (.int .i64 0), .c (.int .i64 0), .own 400044, .own 400045, .c (.int .i64 0)]), (7, .box [.own 400180, .c (.int .i64 x427001), .c (.int .i64 x427002), .c (.int .i64 x427003), .own 400184]), (9, .box [.own 400180, .c (.int .i64 x428001), .c (.int .i64 x428002), .c (.int .i64 x428003), .own 400184, .own 400185, .c (.int .i64 x428006)]), (400040, .row false 3 [.int .i64] []), (400044, .row false 3 [.int .i64] []), (400045, .row false 145 [.str, .int .i64, .int .i64, .int .i64] []), (400180, .row false 3 [.int .i64] (E.eI .i64 x428000)), (400184, .row false 3 [.int .i64] (E.eI .i64 x428004)), (400185, .row false 145 [.str, .int .i64, .int .i64, .int .i64] (E.e145 x428005))] ∧ spec_l09Load.l2 n x11 x12 x13 x14 x15 x16 x17 x412000 x428000 x427001 x427002 x427003 x428004 x428000 x428001 x428002 x428003 x428004 x428005 x428006 = some (r1, r2, r3, r4, r5, r6, r7, r8, r9)) _ (head_ ⟨[1, 2, 7, 9, 11, 12, 13, 14, 15, 16, 17], [1, 2, 7, 9], [], [(2, 0, 3), (2, 4, 3), (2, 5, 145), (9, 0, 3), (9, 4, 3), (9, 5, 145)]⟩ ⟨by omega, _, _, _, _, _, _, _, _, _, _, _, _, _, _, _, _, _, _, rfl, H⟩ (by cbv) f_ f_) (fun n2 t ht Q2 hN2 hX2 => ?_)); obtain ⟨hle2, x11, x12, x13, x14, x15, x16, x17, x412000, x427001, x427002, x427003, x428000, x428001, x428002, x428003, x428004, x428005, x428006, rfl, H⟩ := ht; obtain ⟨m, hm, H⟩ := spec_l09Load.l2_s H; simp only [spec_l09Load.l2] at H; (try (conv => cbv)))
    | ((with_reducible refine hN2 _ ⟨_, ?lt, head_ ⟨[1, 2, 7, 9, 11, 12, 13, 14, 15, 16, 17], [1, 2, 7, 9], [], [(2, 0, 3), (2, 4, 3), (2, 5, 145), (9, 0, 3), (9, 4, 3), (9, 5, 145)]⟩ ⟨by omega, _, _, _, _, _, _, _, _, _, _, _, _, _, _, _, _, _, _, rfl, H⟩ (by cbv) f_ f_⟩); (case lt => omega))
    | ((with_reducible refine hX2 _ _ ne_ret ?_); (try (conv => cbv)))
    | ((with_reducible refine hX2 _ _ (ne_exit _) ?_); (try (conv => cbv)))
    | ((with_reducible first | refine end_ ⟨[2, 3, 4], [2], [], [(2, 0, 3), (2, 4, 3), (2, 5, 145)]⟩ 137 hQ (by cbv) ?_ | refine end_ ⟨[2, 3, 4], [2], [], [(2, 0, 3), (2, 4, 3), (2, 5, 145)]⟩ 137 hQn (by cbv) ?_); (with_reducible have hS := Option.some.inj H); clear hS; cases H; exact f_)
    | contradiction
theorem spec_ReadDecimal.l0_s {k : Nat} {x0 : ByteArray} {x4 : Int} {x5 : Int} {r : _} (h : spec_ReadDecimal.l0 k x0 x4 x5 = some r) : ∃ m, k = m + 1 ∧ spec_ReadDecimal.l0 (m + 1) x0 x4 x5 = some r := by
  cases k with
  | zero => simp [spec_ReadDecimal.l0] at h
  | succ m => exact ⟨m, rfl, h⟩
set_option maxRecDepth 100000 in
set_option maxHeartbeats 4000000 in
theorem spec_ReadDecimal.con (E : En) (hE : E = E0) {k : Nat} {a0 : ByteArray} {r1 : Int} {r2 : Bool} (H : spec_ReadDecimal.f k a0 = some (r1, r2)) :
    Con Tryz.prog TBX 154 [.c (.str a0)] [] (.tup [.c (.int .i64 r1), .c (.bool r2)]) [] [] := by
  refine con_of Tryz.func154 rfl (by kernel_rfl) tabOk [] (Nat.le_of_ble_eq_true rfl) (fun F hF Q hQ hQn => ?_)
  simp only [spec_ReadDecimal.f] at H
  (conv => cbv)
  repeat' first
    | replace H := s_ H
    | (rw [itn_iff] at H; obtain ⟨hc, H⟩ := H)
    | (rw [itn2_iff] at H; obtain ⟨hc, H⟩ := H)
    | ((with_reducible refine br_ hF (fun hb => ?_) (fun hb => ?_)) <;> ((try simp only [hF, hE] at hb); (try simp only [hs, vs] at hb); first | rw [if_pos hb] at H | rw [if_neg hb] at H | rw [if_nn hb] at H | replace H := i_ hb H | (simp only [hb, not_t, b_f, not_true_eq_false, not_false_eq_true, Bool.not_true, Bool.not_false, Bool.false_eq_true, if_true, if_false] at H) | skip) <;> (try (conv => cbv)))
    | (refine w_ hF ?_; (try (conv => cbv)))
    | ((with_reducible show Hd.call F 132 _ _ _); rw [bind_iff] at H; obtain ⟨y, hy, H⟩ := H; (try dsimp only at H); refine call_ hF (spec_Decimal.con E hE hy) f_ f_ ?_; (try (conv => cbv)))
    | ((with_reducible refine loop_ hF (fun n t => n ≤ k ∧ ∃ (x0 : ByteArray) (x4 : Int) (x5 : Int), t = At 42 [(0, .c (.str x0)), (4, .c (.int .i64 x4)), (5, .c (.int .i64 x5))] [] ∧ spec_ReadDecimal.l0 n x0 x4 x5 = some (r1, r2)) _ (head_ ⟨[0, 4, 5], [], [], []⟩ ⟨by omega, _, _, _, rfl, H⟩ (by cbv) f_ f_) (fun n0 t ht Q0 hN0 hX0 => ?_)); obtain ⟨hle0, x0, x4, x5, rfl, H⟩ := ht; obtain ⟨m, hm, H⟩ := spec_ReadDecimal.l0_s H; simp only [spec_ReadDecimal.l0] at H; (try (conv => cbv)))
    | ((with_reducible refine hN0 _ ⟨_, ?lt, head_ ⟨[0, 4, 5], [], [], []⟩ ⟨by omega, _, _, _, rfl, H⟩ (by cbv) f_ f_⟩); (case lt => omega))
    | ((with_reducible refine hX0 _ _ ne_ret ?_); (try (conv => cbv)))
    | ((with_reducible refine hX0 _ _ (ne_exit _) ?_); (try (conv => cbv)))
    | ((with_reducible first | refine end_ ⟨[2, 3], [], [], []⟩ 42 hQ (by cbv) ?_ | refine end_ ⟨[2, 3], [], [], []⟩ 42 hQn (by cbv) ?_); (with_reducible have hS := Option.some.inj H); clear hS; cases H; exact f_)
    | contradiction
set_option maxRecDepth 100000 in
set_option maxHeartbeats 4000000 in
theorem spec_l09Seg.con (E : En) (hE : E = E0) {k : Nat} {a0 : ByteArray} {r : Int} (H : spec_l09Seg.f k a0 = some (r)) :
    Con Tryz.prog TBX 76 [.c (.str a0)] [] (.c (.int .i64 r)) [] [] := by
  refine con_of Tryz.func76 rfl (by kernel_rfl) tabOk [] (Nat.le_of_ble_eq_true rfl) (fun F hF Q hQ hQn => ?_)
  simp only [spec_l09Seg.f] at H
  (conv => cbv)
  repeat' first
    | replace H := s_ H
    | (rw [itn_iff] at H; obtain ⟨hc, H⟩ := H)
    | (rw [itn2_iff] at H; obtain ⟨hc, H⟩ := H)
    | ((with_reducible refine br_ hF (fun hb => ?_) (fun hb => ?_)) <;> ((try simp only [hF, hE] at hb); (try simp only [hs, vs] at hb); first | rw [if_pos hb] at H | rw [if_neg hb] at H | rw [if_nn hb] at H | replace H := i_ hb H | (simp only [hb, not_t, b_f, not_true_eq_false, not_false_eq_true, Bool.not_true, Bool.not_false, Bool.false_eq_true, if_true, if_false] at H) | skip) <;> (try (conv => cbv)))
    | (refine w_ hF ?_; (try (conv => cbv)))
    | ((with_reducible show Hd.call F 61 _ _ _); rw [bind_iff] at H; obtain ⟨y, hy, H⟩ := H; (try dsimp only at H); refine call_ hF (spec_SegName.con E hE hy) f_ f_ ?_; (try (conv => cbv)))
    | ((with_reducible show Hd.call F 154 _ _ _); rw [bind_iff] at H; obtain ⟨⟨y1, y2⟩, hy, H⟩ := H; (try dsimp only at H); refine call_ hF (spec_ReadDecimal.con E hE hy) f_ f_ ?_; (try (conv => cbv)))
    | ((with_reducible first | refine end_ ⟨[2], [], [], []⟩ 23 hQ (by cbv) ?_ | refine end_ ⟨[2], [], [], []⟩ 23 hQn (by cbv) ?_); (with_reducible have hS := Option.some.inj H); clear hS; cases H; exact f_)
    | contradiction
theorem spec_l09In.l0_s {k : Nat} {x0 : List Int} {x1 : Int} {x5 : Int} {r : _} (h : spec_l09In.l0 k x0 x1 x5 = some r) : ∃ m, k = m + 1 ∧ spec_l09In.l0 (m + 1) x0 x1 x5 = some r := by
  cases k with
  | zero => simp [spec_l09In.l0] at h
  | succ m => exact ⟨m, rfl, h⟩
set_option maxRecDepth 100000 in
set_option maxHeartbeats 4000000 in
theorem spec_l09In.con (E : En) (hE : E = E0) {k : Nat} {l0 : List Int} {a1 : Int} {r : Bool} (H : spec_l09In.f k l0 a1 = some (r)) :
    Con Tryz.prog TBX 77 [.c (.sl [.int .i64] (E.eI .i64 l0)), .c (.int .i64 a1)] [] (.c (.bool r)) [] [] := by
  refine con_of Tryz.func77 rfl (by kernel_rfl) tabOk [] (Nat.le_of_ble_eq_true rfl) (fun F hF Q hQ hQn => ?_)
  simp only [spec_l09In.f] at H
  (conv => cbv)
  repeat' first
    | replace H := s_ H
    | (rw [itn_iff] at H; obtain ⟨hc, H⟩ := H)
    | (rw [itn2_iff] at H; obtain ⟨hc, H⟩ := H)
    | ((with_reducible refine br_ hF (fun hb => ?_) (fun hb => ?_)) <;> ((try simp only [hF, hE] at hb); (try simp only [hs, vs] at hb); first | rw [if_pos hb] at H | rw [if_neg hb] at H | rw [if_nn hb] at H | replace H := i_ hb H | (simp only [hb, not_t, b_f, not_true_eq_false, not_false_eq_true, Bool.not_true, Bool.not_false, Bool.false_eq_true, if_true, if_false] at H) | skip) <;> (try (conv => cbv)))
    | (refine w_ hF ?_; (try (conv => cbv)))
    | ((with_reducible refine loop_ hF (fun n t => n ≤ k ∧ ∃ (x0 : List Int) (x1 : Int) (x5 : Int), t = At 18 [(0, .c (.sl [.int .i64] (E.eI .i64 x0))), (1, .c (.int .i64 x1)), (5, .c (.int .i64 x5))] [] ∧ spec_l09In.l0 n x0 x1 x5 = some (r)) _ (head_ ⟨[0, 1, 5], [], [], []⟩ ⟨by omega, _, _, _, rfl, H⟩ (by cbv) f_ f_) (fun n0 t ht Q0 hN0 hX0 => ?_)); obtain ⟨hle0, x0, x1, x5, rfl, H⟩ := ht; obtain ⟨m, hm, H⟩ := spec_l09In.l0_s H; simp only [spec_l09In.l0] at H; (try (conv => cbv)))
    | ((with_reducible refine hN0 _ ⟨_, ?lt, head_ ⟨[0, 1, 5], [], [], []⟩ ⟨by omega, _, _, _, rfl, H⟩ (by cbv) f_ f_⟩); (case lt => omega))
    | ((with_reducible refine hX0 _ _ ne_ret ?_); (try (conv => cbv)))
    | ((with_reducible refine hX0 _ _ (ne_exit _) ?_); (try (conv => cbv)))
    | ((with_reducible first | refine end_ ⟨[4], [], [], []⟩ 18 hQ (by cbv) ?_ | refine end_ ⟨[4], [], [], []⟩ 18 hQn (by cbv) ?_); (with_reducible have hS := Option.some.inj H); clear hS; cases H; exact f_)
    | contradiction
end Go.Ev

