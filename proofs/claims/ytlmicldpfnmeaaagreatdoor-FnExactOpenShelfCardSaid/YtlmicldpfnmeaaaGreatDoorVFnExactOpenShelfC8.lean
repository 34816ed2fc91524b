/- Contracts of the Go functions that this law reaches: what each call returns, by its plain function. No conditions but those that each statement names. By this repo's programs; comments are taken out. -/
import Derived.Test.YtlmicldpfnmeaaaGreatDoorVFnExactOpenShelfD
import Derived.Test.YtlmicldpfnmeaaaGreatDoorVFnExactOpenShelfK
import Derived.Test.YtlmicldpfnmeaaaGreatDoorVFnExactOpenShelfC6
import Derived.Test.YtlmicldpfnmeaaaGreatDoorVFnExactOpenShelfC7
set_option linter.all false
namespace Go.Ev
open Go.RowKit Go.Proofs Go.Proofs.YtlmicldpfnmeaaaGreatDoorW.PrintWords Go.Proofs.YtlmicldpfnmeaaaGreatDoorW.PrintLast Go.Proofs.YtlmicldpfnmeaaaGreatDoorW.PrintMore
theorem each_ReadManifest_c2.l0_s {k : Nat} {x4 : Int} {x5 : Int} {y10000_0 : ByteArray} {y10000_1 : Int} {y10000_2 : Bool} {w3 : List Int} {y10001_1 : Int} {y10001_2 : Int} {y10001_3 : Int} {y10001_4 : List Int} {r : _} (h : each_ReadManifest_c2.l0 k x4 x5 y10000_0 y10000_1 y10000_2 w3 y10001_1 y10001_2 y10001_3 y10001_4 = some r) : ∃ m, k = m + 1 ∧ each_ReadManifest_c2.l0 (m + 1) x4 x5 y10000_0 y10000_1 y10000_2 w3 y10001_1 y10001_2 y10001_3 y10001_4 = some r := by
  cases k with
  | zero => simp [each_ReadManifest_c2.l0] at h
  | succ m => exact ⟨m, rfl, h⟩
set_option maxRecDepth 100000 in
set_option maxHeartbeats 4000000 in
theorem each_ReadManifest_c2.con (E : En) (hE : E = E0) {k : Nat} {s0_0 : ByteArray} {s0_1 : Int} {s0_2 : Bool} {l1_0_0 : List Int} {s1_0_1 : Int} {s1_0_2 : Int} {s1_0_3 : Int} {l1_0_4 : List Int} {r1 : ByteArray} {r2 : Int} {r3 : Bool} {r4 : Int} {r5 : Int} {r6 : Int} {r7 : List Int} {r8 : List Int} (H : each_ReadManifest_c2.f k s0_0 s0_1 s0_2 l1_0_0 s1_0_1 s1_0_2 s1_0_3 l1_0_4 = some (r1, r2, r3, r4, r5, r6, r7, r8)) :
    Con Tryz.prog TBX 156 [.ptr 10000 0, .clo 159 [.ptr 10001 0, .ptr 10002 0]] [.box [.c (.str s0_0), .c (.int .i64 s0_1), .c (.bool s0_2)], .box [.own 10003, .c (.int .i64 s1_0_1), .c (.int .i64 s1_0_2), .c (.int .i64 s1_0_3), .own 10004], .box [.ptr 10000 0], .row false 3 [.int .i64] (E.eI .i64 l1_0_0), .row false 3 [.int .i64] (E.eI .i64 l1_0_4)] (.tup []) [.row false 3 [.int .i64] (E.eI .i64 r7)] [.box [.c (.str r1), .c (.int .i64 r2), .c (.bool r3)], .box [.own 10003, .c (.int .i64 r4), .c (.int .i64 r5), .c (.int .i64 r6), .own 0], .box [.ptr 10000 0], .row false 3 [.int .i64] (E.eI .i64 r8), .gone] := by
  refine con_of Tryz.func156 rfl (by kernel_rfl) tabOkM [600024] (Nat.le_of_ble_eq_true rfl) (fun F hF Q hQ hQn => ?_)
  simp only [each_ReadManifest_c2.f] at H
  (conv => cbv)
  repeat' first
    | replace H := s_ H
    | (rw [itn_iff] at H; obtain ⟨hc, H⟩ := H)
    | (rw [itn2_iff] at H; obtain ⟨hc, H⟩ := H)
    | ((with_reducible refine br_ hF (fun hb => ?_) (fun hb => ?_)) <;> ((try simp only [hF, hE] at hb); (try simp only [hs, vs] at hb); first | rw [if_pos hb] at H | rw [if_neg hb] at H | rw [if_nn hb] at H | replace H := i_ hb H | (simp only [hb, not_t, b_f, not_true_eq_false, not_false_eq_true, Bool.not_true, Bool.not_false, Bool.false_eq_true, if_true, if_false] at H) | skip) <;> (try (conv => cbv)))
    | (refine w_ hF ?_; (try (conv => cbv)))
    | ((with_reducible show Hd.call F 158 _ _ _); rw [bind_iff] at H; obtain ⟨⟨y1, y2, y3, y4⟩, hy, H⟩ := H; (try dsimp only at H); refine call_ hF (impl_reader_num.con E hE hy) f_ f_ ?_; (try (conv => cbv)))
    | ((with_reducible show Hd.call F 159 _ _ _); rw [bind_iff] at H; obtain ⟨⟨y1, y2, y3, y4, y5, y6, y7, y8⟩, hy, H⟩ := H; (try dsimp only at H); refine call_ hF (impl_ReadManifest_c2.con E hE hy) f_ f_ ?_; (try (conv => cbv)))
    | ((with_reducible refine loop_ hF (fun n t => n ≤ k ∧ ∃ (x4 : Int) (x5 : Int) (y10000_0 : ByteArray) (y10000_1 : Int) (y10000_2 : Bool) (w3 : List Int) (y10001_1 : Int) (y10001_2 : Int) (y10001_3 : Int) (y10001_4 : List Int), t = At 22 [(0, .ptr 10000 0), (1, .clo 159 [.ptr 10001 0, .ptr 10002 0]), (4, .c (.int .i64 x4)), (5, .c (.int .i64 x5))] [(10000, .box [.c (.str y10000_0), .c (.int .i64 y10000_1), .c (.bool y10000_2)]), (10001, .box [.own 10003, .c (.int .i64 y10001_1), .c (.int .i64 y10001_2), .c (.int .i64 y10001_3), .own 600024]), (10002, .box [.ptr 10000 0]), (10003, .row false 3 [.int .i64] (E.eI .i64 w3)), (10004, .gone), (600024, .row false 3 [.int .i64] (E.eI .i64 y10001_4))] ∧ each_ReadManifest_c2.l0 n x4 x5 y10000_0 y10000_1 y10000_2 w3 y10001_1 y10001_2 y10001_3 y10001_4 = some (r1, r2, r3, r4, r5, r6, r7, r8)) _ (head_ ⟨[0, 1, 4, 5], [], [], [(10001, 4, 3)]⟩ ⟨by omega, _, _, _, _, _, _, _, _, _, _, rfl, H⟩ (by cbv) f_ f_) (fun n0 t ht Q0 hN0 hX0 => ?_)); obtain ⟨hle0, x4, x5, y10000_0, y10000_1, y10000_2, w3, y10001_1, y10001_2, y10001_3, y10001_4, rfl, H⟩ := ht; obtain ⟨m, hm, H⟩ := each_ReadManifest_c2.l0_s H; simp only [each_ReadManifest_c2.l0] at H; (try (conv => cbv)))
    | ((with_reducible refine hN0 _ ⟨_, ?lt, head_ ⟨[0, 1, 4, 5], [], [], [(10001, 4, 3)]⟩ ⟨by omega, _, _, _, _, _, _, _, _, _, _, rfl, H⟩ (by cbv) f_ f_⟩); (case lt => omega))
    | ((with_reducible refine hX0 _ _ ne_ret ?_); (try (conv => cbv)))
    | ((with_reducible refine hX0 _ _ (ne_exit _) ?_); (try (conv => cbv)))
    | ((with_reducible first | refine end_ ⟨[], [], [], [(10001, 4, 3)]⟩ 22 hQ (by cbv) ?_ | refine end_ ⟨[], [], [], [(10001, 4, 3)]⟩ 22 hQn (by cbv) ?_); (with_reducible have hS := Option.some.inj H); clear hS; cases H; exact f_)
    | contradiction
set_option maxRecDepth 100000 in
set_option maxHeartbeats 4000000 in
theorem impl_reader_done.con (E : En) (hE : E = E0) {s0_0 : ByteArray} {s0_1 : Int} {s0_2 : Bool} {r1 : Bool} {r2 : ByteArray} {r3 : Int} {r4 : Bool} (H : impl_reader_done.f s0_0 s0_1 s0_2 = some (r1, r2, r3, r4)) :
    Con Tryz.prog TBX 160 [.ptr 10000 0] [.box [.c (.str s0_0), .c (.int .i64 s0_1), .c (.bool s0_2)]] (.c (.bool r1)) [] [.box [.c (.str r2), .c (.int .i64 r3), .c (.bool r4)]] := by
  refine con_of Tryz.func160 rfl (by kernel_rfl) tabOk [] (Nat.le_of_ble_eq_true rfl) (fun F hF Q hQ hQn => ?_)
  simp only [impl_reader_done.f] at H
  (conv => cbv)
  repeat' first
    | replace H := s_ H
    | (rw [itn_iff] at H; obtain ⟨hc, H⟩ := H)
    | (rw [itn2_iff] at H; obtain ⟨hc, H⟩ := H)
    | ((with_reducible refine br_ hF (fun hb => ?_) (fun hb => ?_)) <;> ((try simp only [hF, hE] at hb); (try simp only [hs, vs] at hb); first | rw [if_pos hb] at H | rw [if_neg hb] at H | rw [if_nn hb] at H | replace H := i_ hb H | (simp only [hb, not_t, b_f, not_true_eq_false, not_false_eq_true, Bool.not_true, Bool.not_false, Bool.false_eq_true, if_true, if_false] at H) | skip) <;> (try (conv => cbv)))
    | (refine w_ hF ?_; (try (conv => cbv)))
    | ((with_reducible first | refine end_ ⟨[2], [], [], []⟩ 20 hQ (by cbv) ?_ | refine end_ ⟨[2], [], [], []⟩ 20 hQn (by cbv) ?_); (with_reducible have hS := Option.some.inj H); clear hS; cases H; exact f_)
    | contradiction
theorem impl_ConfOk.l0_s {k : Nat} {x0 : List Int} {x5 : List Int} {x6 : Int} {x7 : Int} {r : _} (h : impl_ConfOk.l0 k x0 x5 x6 x7 = some r) : ∃ m, k = m + 1 ∧ impl_ConfOk.l0 (m + 1) x0 x5 x6 x7 = some r := by
  cases k with
  | zero => simp [impl_ConfOk.l0] at h
  | succ m => exact ⟨m, rfl, h⟩
set_option maxRecDepth 100000 in
set_option maxHeartbeats 4000000 in
theorem impl_ConfOk.con (E : En) (hE : E = E0) {k : Nat} {l0 : List Int} {r : Bool} (H : impl_ConfOk.f k l0 = some (r)) :
    Con Tryz.prog TBX 209 [.c (.sl [.int .i64] (E.eI .i64 l0))] [] (.c (.bool r)) [] [] := by
  refine con_of Tryz.func209 rfl (by kernel_rfl) tabOk [] (Nat.le_of_ble_eq_true rfl) (fun F hF Q hQ hQn => ?_)
  simp only [impl_ConfOk.f] at H
  (conv => cbv)
  repeat' first
    | replace H := s_ H
    | (rw [itn_iff] at H; obtain ⟨hc, H⟩ := H)
    | (rw [itn2_iff] at H; obtain ⟨hc, H⟩ := H)
    | ((with_reducible refine br_ hF (fun hb => ?_) (fun hb => ?_)) <;> ((try simp only [hF, hE] at hb); (try simp only [hs, vs] at hb); first | rw [if_pos hb] at H | rw [if_neg hb] at H | rw [if_nn hb] at H | replace H := i_ hb H | (simp only [hb, not_t, b_f, not_true_eq_false, not_false_eq_true, Bool.not_true, Bool.not_false, Bool.false_eq_true, if_true, if_false] at H) | skip) <;> (try (conv => cbv)))
    | (refine w_ hF ?_; (try (conv => cbv)))
    | ((with_reducible show Hd.call F 144 _ _ _); rw [bind_iff] at H; obtain ⟨y, hy, H⟩ := H; (try dsimp only at H); refine call_ hF (impl_within.con E hE hy) f_ f_ ?_; (try (conv => cbv)))
    | ((with_reducible refine loop_ hF (fun n t => n ≤ k ∧ ∃ (x0 : List Int) (x5 : List Int) (x6 : Int) (x7 : Int), t = At 32 [(0, .c (.sl [.int .i64] (E.eI .i64 x0))), (5, .c (.sl [.int .i64] (E.eI .i64 x5))), (6, .c (.int .i64 x6)), (7, .c (.int .i64 x7))] [] ∧ impl_ConfOk.l0 n x0 x5 x6 x7 = some (r)) _ (head_ ⟨[0, 5, 6, 7], [], [], []⟩ ⟨by omega, _, _, _, _, rfl, H⟩ (by cbv) f_ f_) (fun n0 t ht Q0 hN0 hX0 => ?_)); obtain ⟨hle0, x0, x5, x6, x7, rfl, H⟩ := ht; obtain ⟨m, hm, H⟩ := impl_ConfOk.l0_s H; simp only [impl_ConfOk.l0] at H; (try (conv => cbv)))
    | ((with_reducible refine hN0 _ ⟨_, ?lt, head_ ⟨[0, 5, 6, 7], [], [], []⟩ ⟨by omega, _, _, _, _, rfl, H⟩ (by cbv) f_ f_⟩); (case lt => omega))
    | ((with_reducible refine hX0 _ _ ne_ret ?_); (try (conv => cbv)))
    | ((with_reducible refine hX0 _ _ (ne_exit _) ?_); (try (conv => cbv)))
    | ((with_reducible first | refine end_ ⟨[2], [], [], []⟩ 32 hQ (by cbv) ?_ | refine end_ ⟨[2], [], [], []⟩ 32 hQn (by cbv) ?_); (with_reducible have hS := Option.some.inj H); clear hS; cases H; exact f_)
    | contradiction
theorem impl_ManifestOk.l0_s {k : Nat} {x6 : List Int} {x7 : Int} {x8 : Int} {x590000 : List Int} {x590001 : Int} {x590002 : Int} {x590003 : Int} {x590004 : List Int} {r : _} (h : impl_ManifestOk.l0 k x6 x7 x8 x590000 x590001 x590002 x590003 x590004 = some r) : ∃ m, k = m + 1 ∧ impl_ManifestOk.l0 (m + 1) x6 x7 x8 x590000 x590001 x590002 x590003 x590004 = some r := by
  cases k with
  | zero => simp [impl_ManifestOk.l0] at h
  | succ m => exact ⟨m, rfl, h⟩
set_option maxRecDepth 100000 in
set_option maxHeartbeats 4000000 in
theorem impl_ManifestOk.con (E : En) (hE : E = E0) {k : Nat} {l0_0 : List Int} {a0_1 : Int} {a0_2 : Int} {a0_3 : Int} {l0_4 : List Int} {r : Bool} (H : impl_ManifestOk.f k l0_0 a0_1 a0_2 a0_3 l0_4 = some (r)) :
    Con Tryz.prog TBX 161 [.agg [.c (.sl [.int .i64] (E.eI .i64 l0_0)), .c (.int .i64 a0_1), .c (.int .i64 a0_2), .c (.int .i64 a0_3), .c (.sl [.int .i64] (E.eI .i64 l0_4))]] [] (.c (.bool r)) [] [] := by
  refine con_of Tryz.func161 rfl (by kernel_rfl) tabOk [] (Nat.le_of_ble_eq_true rfl) (fun F hF Q hQ hQn => ?_)
  simp only [impl_ManifestOk.f] at H
  (conv => cbv)
  repeat' first
    | replace H := s_ H
    | (rw [itn_iff] at H; obtain ⟨hc, H⟩ := H)
    | (rw [itn2_iff] at H; obtain ⟨hc, H⟩ := H)
    | ((with_reducible refine br_ hF (fun hb => ?_) (fun hb => ?_)) <;> ((try simp only [hF, hE] at hb); (try simp only [hs, vs] at hb); first | rw [if_pos hb] at H | rw [if_neg hb] at H | rw [if_nn hb] at H | replace H := i_ hb H | (simp only [hb, not_t, b_f, not_true_eq_false, not_false_eq_true, Bool.not_true, Bool.not_false, Bool.false_eq_true, if_true, if_false] at H) | skip) <;> (try (conv => cbv)))
    | (refine w_ hF ?_; (try (conv => cbv)))
    | ((with_reducible show Hd.call F 144 _ _ _); rw [bind_iff] at H; obtain ⟨y, hy, H⟩ := H; (try dsimp only at H); refine call_ hF (impl_within.con E hE hy) f_ f_ ?_; (try (conv => cbv)))
    | ((with_reducible show Hd.call F 209 _ _ _); rw [bind_iff] at H; obtain ⟨y, hy, H⟩ := H; (try dsimp only at H); refine call_ hF (impl_ConfOk.con E hE hy) f_ f_ ?_; (try (conv => cbv)))
    | ((with_reducible refine loop_ hF (fun n t => n ≤ k ∧ ∃ (x6 : List Int) (x7 : Int) (x8 : Int) (x590000 : List Int) (x590001 : Int) (x590002 : Int) (x590003 : Int) (x590004 : List Int), t = At 61 [(1, .ptr 1 0), (6, .c (.sl [.int .i64] (E.eI .i64 x6))), (7, .c (.int .i64 x7)), (8, .c (.int .i64 x8))] [(1, .box [.c (.sl [.int .i64] (E.eI .i64 x590000)), .c (.int .i64 x590001), .c (.int .i64 x590002), .c (.int .i64 x590003), .c (.sl [.int .i64] (E.eI .i64 x590004))])] ∧ impl_ManifestOk.l0 n x6 x7 x8 x590000 x590001 x590002 x590003 x590004 = some (r)) _ (head_ ⟨[1, 6, 7, 8], [1], [], []⟩ ⟨by omega, _, _, _, _, _, _, _, _, rfl, H⟩ (by cbv) f_ f_) (fun n0 t ht Q0 hN0 hX0 => ?_)); obtain ⟨hle0, x6, x7, x8, x590000, x590001, x590002, x590003, x590004, rfl, H⟩ := ht; obtain ⟨m, hm, H⟩ := impl_ManifestOk.l0_s H; simp only [impl_ManifestOk.l0] at H; (try (conv => cbv)))
    | ((with_reducible refine hN0 _ ⟨_, ?lt, head_ ⟨[1, 6, 7, 8], [1], [], []⟩ ⟨by omega, _, _, _, _, _, _, _, _, rfl, H⟩ (by cbv) f_ f_⟩); (case lt => omega))
    | ((with_reducible refine hX0 _ _ ne_ret ?_); (try (conv => cbv)))
    | ((with_reducible refine hX0 _ _ (ne_exit _) ?_); (try (conv => cbv)))
    | ((with_reducible first | refine end_ ⟨[2], [], [], []⟩ 61 hQ (by cbv) ?_ | refine end_ ⟨[2], [], [], []⟩ 61 hQn (by cbv) ?_); (with_reducible have hS := Option.some.inj H); clear hS; cases H; exact f_)
    | contradiction
set_option maxRecDepth 100000 in
set_option maxHeartbeats 4000000 in
theorem impl_ReadManifest.con (E : En) (hE : E = E0) {k : Nat} {a0 : ByteArray} {r1 : List Int} {r2 : Int} {r3 : Int} {r4 : Int} {r5 : List Int} {r6 : Bool} (H : impl_ReadManifest.f k a0 = some (r1, r2, r3, r4, r5, r6)) :
    Con Tryz.prog TBX 79 [.c (.str a0)] [] (.tup [.agg [.own 0, .c (.int .i64 r2), .c (.int .i64 r3), .c (.int .i64 r4), .own 1], .c (.bool r6)]) [.row false 3 [.int .i64] (E.eI .i64 r1), .row false 3 [.int .i64] (E.eI .i64 r5)] [] := by
  refine con_of Tryz.func79 rfl (by kernel_rfl) tabOkM [400040, 400044] (Nat.le_of_ble_eq_true rfl) (fun F hF Q hQ hQn => ?_)
  simp only [impl_ReadManifest.f] at H
  (conv => cbv)
  repeat' first
    | replace H := s_ H
    | (rw [itn_iff] at H; obtain ⟨hc, H⟩ := H)
    | (rw [itn2_iff] at H; obtain ⟨hc, H⟩ := H)
    | ((with_reducible refine br_ hF (fun hb => ?_) (fun hb => ?_)) <;> ((try simp only [hF, hE] at hb); (try simp only [hs, vs] at hb); first | rw [if_pos hb] at H | rw [if_neg hb] at H | rw [if_nn hb] at H | replace H := i_ hb H | (simp only [hb, not_t, b_f, not_true_eq_false, not_false_eq_true, Bool.not_true, Bool.not_false, Bool.false_eq_true, if_true, if_false] at H) | skip) <;> (try (conv => cbv)))
    | (refine w_ hF ?_; (try (conv => cbv)))
    | ((with_reducible show Hd.call F 155 _ _ _); rw [bind_iff] at H; obtain ⟨⟨y1, y2⟩, hy, H⟩ := H; (try dsimp only at H); refine call_ hF (impl_Unsealed.con E hE hy) f_ f_ ?_; (try (conv => cbv)))
    | ((with_reducible show Hd.call F 156 _ _ _); rw [bind_iff] at H; obtain ⟨⟨y1, y2, y3, y4, y5, y6, y7, y8⟩, hy, H⟩ := H; (try dsimp only at H); refine call_ hF (each_ReadManifest_c1.con E hE hy) f_ f_ ?_; (try (conv => cbv)))
    | ((with_reducible show Hd.call F 158 _ _ _); rw [bind_iff] at H; obtain ⟨⟨y1, y2, y3, y4⟩, hy, H⟩ := H; (try dsimp only at H); refine call_ hF (impl_reader_num.con E hE hy) f_ f_ ?_; (try (conv => cbv)))
    | ((with_reducible show Hd.call F 156 _ _ _); rw [bind_iff] at H; obtain ⟨⟨y1, y2, y3, y4, y5, y6, y7, y8⟩, hy, H⟩ := H; (try dsimp only at H); refine call_ hF (each_ReadManifest_c2.con E hE hy) f_ f_ ?_; (try (conv => cbv)))
    | ((with_reducible show Hd.call F 160 _ _ _); rw [bind_iff] at H; obtain ⟨⟨y1, y2, y3, y4⟩, hy, H⟩ := H; (try dsimp only at H); refine call_ hF (impl_reader_done.con E hE hy) f_ f_ ?_; (try (conv => cbv)))
    | ((with_reducible show Hd.call F 161 _ _ _); rw [bind_iff] at H; obtain ⟨y, hy, H⟩ := H; (try dsimp only at H); refine call_ hF (impl_ManifestOk.con E hE hy) f_ f_ ?_; (try (conv => cbv)))
    | ((with_reducible first | refine end_ ⟨[2, 3], [2], [], [(2, 0, 3), (2, 4, 3)]⟩ 44 hQ (by cbv) ?_ | refine end_ ⟨[2, 3], [2], [], [(2, 0, 3), (2, 4, 3)]⟩ 44 hQn (by cbv) ?_); (with_reducible have hS := Option.some.inj H); clear hS; cases H; exact f_)
    | contradiction
set_option maxRecDepth 100000 in
set_option maxHeartbeats 4000000 in
theorem impl_SegName.con (E : En) (hE : E = E0) {a0 : Int} {r : ByteArray} (H : impl_SegName.f a0 = some (r)) :
    Con Tryz.prog TBX 69 [.c (.int .i64 a0)] [] (.c (.str r)) [] [] := by
  refine con_of Tryz.func69 rfl (by kernel_rfl) tabOk [] (Nat.le_of_ble_eq_true rfl) (fun F hF Q hQ hQn => ?_)
  simp only [impl_SegName.f] at H
  (conv => cbv)
  repeat' first
    | replace H := s_ H
    | (rw [itn_iff] at H; obtain ⟨hc, H⟩ := H)
    | (rw [itn2_iff] at H; obtain ⟨hc, H⟩ := H)
    | ((with_reducible refine br_ hF (fun hb => ?_) (fun hb => ?_)) <;> ((try simp only [hF, hE] at hb); (try simp only [hs, vs] at hb); first | rw [if_pos hb] at H | rw [if_neg hb] at H | rw [if_nn hb] at H | replace H := i_ hb H | (simp only [hb, not_t, b_f, not_true_eq_false, not_false_eq_true, Bool.not_true, Bool.not_false, Bool.false_eq_true, if_true, if_false] at H) | skip) <;> (try (conv => cbv)))
    | (refine w_ hF ?_; (try (conv => cbv)))
    | ((with_reducible show Hd.call F 144 _ _ _); rw [bind_iff] at H; obtain ⟨y, hy, H⟩ := H; (try dsimp only at H); refine call_ hF (impl_within.con E hE hy) f_ f_ ?_; (try (conv => cbv)))
    | ((with_reducible show Hd.call F 145 _ _ _); rw [bind_iff] at H; obtain ⟨y, hy, H⟩ := H; (try dsimp only at H); refine call_ hF (impl_Decimal.con E hE hy) f_ f_ ?_; (try (conv => cbv)))
    | ((with_reducible first | refine end_ ⟨[2], [], [], []⟩ 9 hQ (by cbv) ?_ | refine end_ ⟨[2], [], [], []⟩ 9 hQn (by cbv) ?_); (with_reducible have hS := Option.some.inj H); clear hS; cases H; exact f_)
    | contradiction
set_option maxRecDepth 100000 in
set_option maxHeartbeats 4000000 in
theorem internal_stringslite_HasPrefix.con (E : En) (hE : E = E0) {a0 : ByteArray} {a1 : ByteArray} {r : Bool} (H : internal_stringslite_HasPrefix.f a0 a1 = some r) :
    Con Tryz.prog TBX 234 [.c (.str a0), .c (.str a1)] [] (.c (.bool r)) [] [] := by
  refine con_of Tryz.func234 rfl (by kernel_rfl) tabOkM [] (Nat.le_of_ble_eq_true rfl) (fun F hF Q hQ hQn => ?_)
  simp only [internal_stringslite_HasPrefix.f] at H
  (conv => cbv)
  repeat' first
    | replace H := s_ H
    | (rw [itn_iff] at H; obtain ⟨hc, H⟩ := H)
    | (rw [itn2_iff] at H; obtain ⟨hc, H⟩ := H)
    | ((with_reducible refine br_ hF (fun hb => ?_) (fun hb => ?_)) <;> ((try simp only [hF, hE] at hb); (try simp only [hs, vs] at hb); first | rw [if_pos hb] at H | rw [if_neg hb] at H | rw [if_nn hb] at H | replace H := i_ hb H | (simp only [hb, not_t, b_f, not_true_eq_false, not_false_eq_true, Bool.not_true, Bool.not_false, Bool.false_eq_true, if_true, if_false] at H) | skip) <;> (try (conv => cbv)))
    | (refine w_ hF ?_; (try (conv => cbv)))
    | ((with_reducible first | refine end_ ⟨[4], [], [], []⟩ 18 hQ (by cbv) ?_ | refine end_ ⟨[4], [], [], []⟩ 18 hQn (by cbv) ?_); (with_reducible have hS := Option.some.inj H); clear hS; cases H; exact f_)
    | contradiction
set_option maxRecDepth 100000 in
set_option maxHeartbeats 4000000 in
theorem internal_stringslite_CutPrefix.con (E : En) (hE : E = E0) {a0 : ByteArray} {a1 : ByteArray} {r1 : ByteArray} {r2 : Bool} (H : internal_stringslite_CutPrefix.f a0 a1 = some (r1, r2)) :
    Con Tryz.prog TBX 226 [.c (.str a0), .c (.str a1)] [] (.tup [.c (.str r1), .c (.bool r2)]) [] [] := by
  refine con_of Tryz.func226 rfl (by kernel_rfl) tabOkM [] (Nat.le_of_ble_eq_true rfl) (fun F hF Q hQ hQn => ?_)
  simp only [internal_stringslite_CutPrefix.f] at H
  (conv => cbv)
  repeat' first
    | replace H := s_ H
    | (rw [itn_iff] at H; obtain ⟨hc, H⟩ := H)
    | (rw [itn2_iff] at H; obtain ⟨hc, H⟩ := H)
    | ((with_reducible refine br_ hF (fun hb => ?_) (fun hb => ?_)) <;> ((try simp only [hF, hE] at hb); (try simp only [hs, vs] at hb); first | rw [if_pos hb] at H | rw [if_neg hb] at H | rw [if_nn hb] at H | replace H := i_ hb H | (simp only [hb, not_t, b_f, not_true_eq_false, not_false_eq_true, Bool.not_true, Bool.not_false, Bool.false_eq_true, if_true, if_false] at H) | skip) <;> (try (conv => cbv)))
    | (refine w_ hF ?_; (try (conv => cbv)))
    | ((with_reducible show Hd.call F 234 _ _ _); rw [bind_iff] at H; obtain ⟨y, hy, H⟩ := H; (try dsimp only at H); refine call_ hF (internal_stringslite_HasPrefix.con E hE hy) f_ f_ ?_; (try (conv => cbv)))
    | ((with_reducible first | refine end_ ⟨[4, 5], [], [], []⟩ 15 hQ (by cbv) ?_ | refine end_ ⟨[4, 5], [], [], []⟩ 15 hQn (by cbv) ?_); (with_reducible have hS := Option.some.inj H); clear hS; cases H; exact f_)
    | contradiction
set_option maxRecDepth 100000 in
set_option maxHeartbeats 4000000 in
theorem strings_CutPrefix.con (E : En) (hE : E = E0) {a0 : ByteArray} {a1 : ByteArray} {r1 : ByteArray} {r2 : Bool} (H : strings_CutPrefix.f a0 a1 = some (r1, r2)) :
    Con Tryz.prog TBX 210 [.c (.str a0), .c (.str a1)] [] (.tup [.c (.str r1), .c (.bool r2)]) [] [] := by
  refine con_of Tryz.func210 rfl (by kernel_rfl) tabOkM [] (Nat.le_of_ble_eq_true rfl) (fun F hF Q hQ hQn => ?_)
  simp only [strings_CutPrefix.f] at H
  (conv => cbv)
  repeat' first
    | replace H := s_ H
    | (rw [itn_iff] at H; obtain ⟨hc, H⟩ := H)
    | (rw [itn2_iff] at H; obtain ⟨hc, H⟩ := H)
    | ((with_reducible refine br_ hF (fun hb => ?_) (fun hb => ?_)) <;> ((try simp only [hF, hE] at hb); (try simp only [hs, vs] at hb); first | rw [if_pos hb] at H | rw [if_neg hb] at H | rw [if_nn hb] at H | replace H := i_ hb H | (simp only [hb, not_t, b_f, not_true_eq_false, not_false_eq_true, Bool.not_true, Bool.not_false, Bool.false_eq_true, if_true, if_false] at H) | skip) <;> (try (conv => cbv)))
    | (refine w_ hF ?_; (try (conv => cbv)))
    | ((with_reducible show Hd.call F 226 _ _ _); rw [bind_iff] at H; obtain ⟨⟨y1, y2⟩, hy, H⟩ := H; (try dsimp only at H); refine call_ hF (internal_stringslite_CutPrefix.con E hE hy) f_ f_ ?_; (try (conv => cbv)))
    | ((with_reducible first | refine end_ ⟨[4, 5], [], [], []⟩ 11 hQ (by cbv) ?_ | refine end_ ⟨[4, 5], [], [], []⟩ 11 hQn (by cbv) ?_); (with_reducible have hS := Option.some.inj H); clear hS; cases H; exact f_)
    | contradiction
set_option maxRecDepth 100000 in
set_option maxHeartbeats 4000000 in
theorem impl_ReadDecimal.con (E : En) (hE : E = E0) {a0 : ByteArray} {r1 : Int} {r2 : Bool} (H : impl_ReadDecimal.f a0 = some (r1, r2)) :
    Con Tryz.prog TBX 211 [.c (.str a0)] [] (.tup [.c (.int .i64 r1), .c (.bool r2)]) [] [] := by
  refine con_of Tryz.func211 rfl (by kernel_rfl) tabOkM [] (Nat.le_of_ble_eq_true rfl) (fun F hF Q hQ hQn => ?_)
  simp only [impl_ReadDecimal.f] at H
  (conv => cbv)
  repeat' first
    | replace H := s_ H
    | (rw [itn_iff] at H; obtain ⟨hc, H⟩ := H)
    | (rw [itn2_iff] at H; obtain ⟨hc, H⟩ := H)
    | ((with_reducible refine br_ hF (fun hb => ?_) (fun hb => ?_)) <;> ((try simp only [hF, hE] at hb); (try simp only [hs, vs] at hb); first | rw [if_pos hb] at H | rw [if_neg hb] at H | rw [if_nn hb] at H | replace H := i_ hb H | (simp only [hb, not_t, b_f, not_true_eq_false, not_false_eq_true, Bool.not_true, Bool.not_false, Bool.false_eq_true, if_true, if_false] at H) | skip) <;> (try (conv => cbv)))
    | (refine w_ hF ?_; (try (conv => cbv)))
    | ((with_reducible show Hd.call F 227 _ _ _); rw [bind_iff] at H; obtain ⟨⟨y1, y2⟩, hy, H⟩ := H; (try dsimp only at H); refine call_ hF (strconv_Atoi.con E hE hy) f_ f_ ?_; (try (conv => cbv)))
    | ((with_reducible show Hd.call F 145 _ _ _); rw [bind_iff] at H; obtain ⟨y, hy, H⟩ := H; (try dsimp only at H); refine call_ hF (impl_Decimal.con E hE hy) f_ f_ ?_; (try (conv => cbv)))
    | ((with_reducible show Hd.call F 144 _ _ _); rw [bind_iff] at H; obtain ⟨y, hy, H⟩ := H; (try dsimp only at H); refine call_ hF (impl_within.con E hE hy) f_ f_ ?_; (try (conv => cbv)))
    | ((with_reducible first | refine end_ ⟨[2, 3], [], [], []⟩ 25 hQ (by cbv) ?_ | refine end_ ⟨[2, 3], [], [], []⟩ 25 hQn (by cbv) ?_); (with_reducible have hS := Option.some.inj H); clear hS; cases H; exact f_)
    | contradiction
end Go.Ev

