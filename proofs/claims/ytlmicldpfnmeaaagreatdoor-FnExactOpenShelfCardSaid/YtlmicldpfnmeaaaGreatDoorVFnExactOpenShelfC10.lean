/- Contracts of the Go functions that this law reaches: what each call returns, by its plain function. No conditions but those that each statement names. By this repo's programs; comments are taken out. -/
import Derived.Test.YtlmicldpfnmeaaaGreatDoorVFnExactOpenShelfD
import Derived.Test.YtlmicldpfnmeaaaGreatDoorVFnExactOpenShelfC6
import Derived.Test.YtlmicldpfnmeaaaGreatDoorVFnExactOpenShelfC7
import Derived.Test.YtlmicldpfnmeaaaGreatDoorVFnExactOpenShelfC9
set_option linter.all false
namespace Go.Ev
open Go.RowKit Go.Proofs Go.Proofs.YtlmicldpfnmeaaaGreatDoorW.PrintWords Go.Proofs.YtlmicldpfnmeaaaGreatDoorW.PrintLast Go.Proofs.YtlmicldpfnmeaaaGreatDoorW.PrintMore
set_option maxRecDepth 100000 in
set_option maxHeartbeats 4000000 in
theorem impl_ReadBatch_c1.con (E : En) (hE : E = E0) {k : Nat} {s0_0_0 : ByteArray} {s0_0_1 : Int} {s0_0_2 : Bool} {s1_0 : Int} {l1_1 : List S162} {r1 : Int} {r2 : List S162} {r3 : ByteArray} {r4 : Int} {r5 : Bool} (H : impl_ReadBatch_c1.f k s0_0_0 s0_0_1 s0_0_2 s1_0 l1_1 = some (r1, r2, r3, r4, r5)) :
    Con Tryz.prog TBX 204 [.ptr 10000 0, .ptr 10001 0] [.box [.ptr 10002 0], .box [.c (.int .i64 s1_0), .own 10003], .box [.c (.str s0_0_0), .c (.int .i64 s0_0_1), .c (.bool s0_0_2)], .row false 162 [.str, .str, .bool] (E.e162 l1_1)] (.tup []) [.row false 162 [.str, .str, .bool] (E.e162 r2)] [.box [.ptr 10002 0], .box [.c (.int .i64 r1), .own 0], .box [.c (.str r3), .c (.int .i64 r4), .c (.bool r5)], .gone] := by
  refine con_of Tryz.func204 rfl (by kernel_rfl) tabOkM [600021] (Nat.le_of_ble_eq_true rfl) (fun F hF Q hQ hQn => ?_)
  simp only [impl_ReadBatch_c1.f] at H
  (conv => cbv)
  repeat' first
    | replace H := s_ H
    | (rw [itn_iff] at H; obtain ⟨hc, H⟩ := H)
    | (rw [itn2_iff] at H; obtain ⟨hc, H⟩ := H)
    | ((with_reducible refine br_ hF (fun hb => ?_) (fun hb => ?_)) <;> ((try simp only [hF, hE] at hb); (try simp only [hs, vs] at hb); first | rw [if_pos hb] at H | rw [if_neg hb] at H | rw [if_nn hb] at H | replace H := i_ hb H | (simp only [hb, not_t, b_f, not_true_eq_false, not_false_eq_true, Bool.not_true, Bool.not_false, Bool.false_eq_true, if_true, if_false] at H) | skip) <;> (try (conv => cbv)))
    | (refine w_ hF ?_; (try (conv => cbv)))
    | ((with_reducible show Hd.call F 205 _ _ _); rw [bind_iff] at H; obtain ⟨⟨y1, y2, y3, y4⟩, hy, H⟩ := H; (try dsimp only at H); refine call_ hF (impl_reader_text.con E hE hy) f_ f_ ?_; (try (conv => cbv)))
    | ((with_reducible show Hd.call F 206 _ _ _); rw [bind_iff] at H; obtain ⟨⟨y1, y2, y3, y4⟩, hy, H⟩ := H; (try dsimp only at H); refine call_ hF (impl_reader_byte.con E hE hy) f_ f_ ?_; (try (conv => cbv)))
    | ((with_reducible first | refine end_ ⟨[], [], [], [(10001, 1, 162)]⟩ 19 hQ (by cbv) ?_ | refine end_ ⟨[], [], [], [(10001, 1, 162)]⟩ 19 hQn (by cbv) ?_); (with_reducible have hS := Option.some.inj H); clear hS; cases H; exact f_)
    | contradiction
theorem each_ReadBatch_c1.l0_s {k : Nat} {x4 : Int} {x5 : Int} {y10000_0 : ByteArray} {y10000_1 : Int} {y10000_2 : Bool} {y10002_0 : Int} {y10002_1 : List S162} {r : _} (h : each_ReadBatch_c1.l0 k x4 x5 y10000_0 y10000_1 y10000_2 y10002_0 y10002_1 = some r) : ∃ m, k = m + 1 ∧ each_ReadBatch_c1.l0 (m + 1) x4 x5 y10000_0 y10000_1 y10000_2 y10002_0 y10002_1 = some r := by
  cases k with
  | zero => simp [each_ReadBatch_c1.l0] at h
  | succ m => exact ⟨m, rfl, h⟩
set_option maxRecDepth 100000 in
set_option maxHeartbeats 4000000 in
theorem each_ReadBatch_c1.con (E : En) (hE : E = E0) {k : Nat} {s0_0 : ByteArray} {s0_1 : Int} {s0_2 : Bool} {s1_1_0 : Int} {r1 : ByteArray} {r2 : Int} {r3 : Bool} {r4 : Int} {r5 : List S162} (H : each_ReadBatch_c1.f k s0_0 s0_1 s0_2 s1_1_0 = some (r1, r2, r3, r4, r5)) :
    Con Tryz.prog TBX 156 [.ptr 10000 0, .clo 204 [.ptr 10001 0, .ptr 10002 0]] [.box [.c (.str s0_0), .c (.int .i64 s0_1), .c (.bool s0_2)], .box [.ptr 10000 0], .box [.c (.int .i64 s1_1_0), .nil [.str, .str, .bool]]] (.tup []) [.row false 162 [.str, .str, .bool] (E.e162 r5)] [.box [.c (.str r1), .c (.int .i64 r2), .c (.bool r3)], .box [.ptr 10000 0], .box [.c (.int .i64 r4), .own 0]] := by
  refine con_of Tryz.func156 rfl (by kernel_rfl) tabOkM [600041] (Nat.le_of_ble_eq_true rfl) (fun F hF Q hQ hQn => ?_)
  simp only [each_ReadBatch_c1.f] at H
  (conv => cbv)
  repeat' first
    | replace H := s_ H
    | (rw [itn_iff] at H; obtain ⟨hc, H⟩ := H)
    | (rw [itn2_iff] at H; obtain ⟨hc, H⟩ := H)
    | ((with_reducible refine br_ hF (fun hb => ?_) (fun hb => ?_)) <;> ((try simp only [hF, hE] at hb); (try simp only [hs, vs] at hb); first | rw [if_pos hb] at H | rw [if_neg hb] at H | rw [if_nn hb] at H | replace H := i_ hb H | (simp only [hb, not_t, b_f, not_true_eq_false, not_false_eq_true, Bool.not_true, Bool.not_false, Bool.false_eq_true, if_true, if_false] at H) | skip) <;> (try (conv => cbv)))
    | (refine w_ hF ?_; (try (conv => cbv)))
    | ((with_reducible show Hd.call F 158 _ _ _); rw [bind_iff] at H; obtain ⟨⟨y1, y2, y3, y4⟩, hy, H⟩ := H; (try dsimp only at H); refine call_ hF (impl_reader_num.con E hE hy) f_ f_ ?_; (try (conv => cbv)))
    | ((with_reducible show Hd.call F 204 _ _ _); rw [bind_iff] at H; obtain ⟨⟨y1, y2, y3, y4, y5⟩, hy, H⟩ := H; (try dsimp only at H); refine call_ hF (impl_ReadBatch_c1.con E hE hy) f_ f_ ?_; (try (conv => cbv)))
    | ((with_reducible refine loop_ hF (fun n t => n ≤ k ∧ ∃ (x4 : Int) (x5 : Int) (y10000_0 : ByteArray) (y10000_1 : Int) (y10000_2 : Bool) (y10002_0 : Int) (y10002_1 : List S162), t = At 22 [(0, .ptr 10000 0), (1, .clo 204 [.ptr 10001 0, .ptr 10002 0]), (4, .c (.int .i64 x4)), (5, .c (.int .i64 x5))] [(10000, .box [.c (.str y10000_0), .c (.int .i64 y10000_1), .c (.bool y10000_2)]), (10001, .box [.ptr 10000 0]), (10002, .box [.c (.int .i64 y10002_0), .own 600041]), (600041, .row false 162 [.str, .str, .bool] (E.e162 y10002_1))] ∧ each_ReadBatch_c1.l0 n x4 x5 y10000_0 y10000_1 y10000_2 y10002_0 y10002_1 = some (r1, r2, r3, r4, r5)) _ (head_ ⟨[0, 1, 4, 5], [], [], [(10002, 1, 162)]⟩ ⟨by omega, _, _, _, _, _, _, _, rfl, H⟩ (by cbv) f_ f_) (fun n0 t ht Q0 hN0 hX0 => ?_)); obtain ⟨hle0, x4, x5, y10000_0, y10000_1, y10000_2, y10002_0, y10002_1, rfl, H⟩ := ht; obtain ⟨m, hm, H⟩ := each_ReadBatch_c1.l0_s H; simp only [each_ReadBatch_c1.l0] at H; (try (conv => cbv)))
    | ((with_reducible refine hN0 _ ⟨_, ?lt, head_ ⟨[0, 1, 4, 5], [], [], [(10002, 1, 162)]⟩ ⟨by omega, _, _, _, _, _, _, _, rfl, H⟩ (by cbv) f_ f_⟩); (case lt => omega))
    | ((with_reducible refine hX0 _ _ ne_ret ?_); (try (conv => cbv)))
    | ((with_reducible refine hX0 _ _ (ne_exit _) ?_); (try (conv => cbv)))
    | ((with_reducible first | refine end_ ⟨[], [], [], [(10002, 1, 162)]⟩ 22 hQ (by cbv) ?_ | refine end_ ⟨[], [], [], [(10002, 1, 162)]⟩ 22 hQn (by cbv) ?_); (with_reducible have hS := Option.some.inj H); clear hS; cases H; exact f_)
    | contradiction
set_option maxRecDepth 100000 in
set_option maxHeartbeats 4000000 in
theorem impl_keyOk.con (E : En) (hE : E = E0) {a0 : ByteArray} {r : Bool} (H : impl_keyOk.f a0 = some (r)) :
    Con Tryz.prog TBX 188 [.c (.str a0)] [] (.c (.bool r)) [] [] := by
  refine con_of Tryz.func188 rfl (by kernel_rfl) tabOk [] (Nat.le_of_ble_eq_true rfl) (fun F hF Q hQ hQn => ?_)
  simp only [impl_keyOk.f] at H
  (conv => cbv)
  repeat' first
    | replace H := s_ H
    | (rw [itn_iff] at H; obtain ⟨hc, H⟩ := H)
    | (rw [itn2_iff] at H; obtain ⟨hc, H⟩ := H)
    | ((with_reducible refine br_ hF (fun hb => ?_) (fun hb => ?_)) <;> ((try simp only [hF, hE] at hb); (try simp only [hs, vs] at hb); first | rw [if_pos hb] at H | rw [if_neg hb] at H | rw [if_nn hb] at H | replace H := i_ hb H | (simp only [hb, not_t, b_f, not_true_eq_false, not_false_eq_true, Bool.not_true, Bool.not_false, Bool.false_eq_true, if_true, if_false] at H) | skip) <;> (try (conv => cbv)))
    | (refine w_ hF ?_; (try (conv => cbv)))
    | ((with_reducible show Hd.call F 144 _ _ _); rw [bind_iff] at H; obtain ⟨y, hy, H⟩ := H; (try dsimp only at H); refine call_ hF (impl_within.con E hE hy) f_ f_ ?_; (try (conv => cbv)))
    | ((with_reducible first | refine end_ ⟨[2], [], [], []⟩ 6 hQ (by cbv) ?_ | refine end_ ⟨[2], [], [], []⟩ 6 hQn (by cbv) ?_); (with_reducible have hS := Option.some.inj H); clear hS; cases H; exact f_)
    | contradiction
theorem impl_BatchOk.l0_s {k : Nat} {x6 : List S162} {x7 : Int} {x8 : Int} {x532000 : Int} {x532001 : List S162} {r : _} (h : impl_BatchOk.l0 k x6 x7 x8 x532000 x532001 = some r) : ∃ m, k = m + 1 ∧ impl_BatchOk.l0 (m + 1) x6 x7 x8 x532000 x532001 = some r := by
  cases k with
  | zero => simp [impl_BatchOk.l0] at h
  | succ m => exact ⟨m, rfl, h⟩
set_option maxRecDepth 100000 in
set_option maxHeartbeats 4000000 in
theorem impl_BatchOk.con (E : En) (hE : E = E0) {k : Nat} {a0_0 : Int} {l0_1 : List S162} {r : Bool} (H : impl_BatchOk.f k a0_0 l0_1 = some (r)) :
    Con Tryz.prog TBX 179 [.agg [.c (.int .i64 a0_0), .c (.sl [.str, .str, .bool] (E.e162 l0_1))]] [] (.c (.bool r)) [] [] := by
  refine con_of Tryz.func179 rfl (by kernel_rfl) tabOk [] (Nat.le_of_ble_eq_true rfl) (fun F hF Q hQ hQn => ?_)
  simp only [impl_BatchOk.f] at H
  (conv => cbv)
  repeat' first
    | replace H := s_ H
    | (rw [itn_iff] at H; obtain ⟨hc, H⟩ := H)
    | (rw [itn2_iff] at H; obtain ⟨hc, H⟩ := H)
    | ((with_reducible refine br_ hF (fun hb => ?_) (fun hb => ?_)) <;> ((try simp only [hF, hE] at hb); (try simp only [hs, vs] at hb); first | rw [if_pos hb] at H | rw [if_neg hb] at H | rw [if_nn hb] at H | replace H := i_ hb H | (simp only [hb, not_t, b_f, not_true_eq_false, not_false_eq_true, Bool.not_true, Bool.not_false, Bool.false_eq_true, if_true, if_false] at H) | skip) <;> (try (conv => cbv)))
    | (refine w_ hF ?_; (try (conv => cbv)))
    | ((with_reducible show Hd.call F 144 _ _ _); rw [bind_iff] at H; obtain ⟨y, hy, H⟩ := H; (try dsimp only at H); refine call_ hF (impl_within.con E hE hy) f_ f_ ?_; (try (conv => cbv)))
    | ((with_reducible show Hd.call F 188 _ _ _); rw [bind_iff] at H; obtain ⟨y, hy, H⟩ := H; (try dsimp only at H); refine call_ hF (impl_keyOk.con E hE hy) f_ f_ ?_; (try (conv => cbv)))
    | ((with_reducible refine loop_ hF (fun n t => n ≤ k ∧ ∃ (x6 : List S162) (x7 : Int) (x8 : Int) (x532000 : Int) (x532001 : List S162), t = At 58 [(1, .ptr 1 0), (6, .c (.sl [.str, .str, .bool] (E.e162 x6))), (7, .c (.int .i64 x7)), (8, .c (.int .i64 x8))] [(1, .box [.c (.int .i64 x532000), .c (.sl [.str, .str, .bool] (E.e162 x532001))])] ∧ impl_BatchOk.l0 n x6 x7 x8 x532000 x532001 = some (r)) _ (head_ ⟨[1, 6, 7, 8], [1], [], []⟩ ⟨by omega, _, _, _, _, _, rfl, H⟩ (by cbv) f_ f_) (fun n0 t ht Q0 hN0 hX0 => ?_)); obtain ⟨hle0, x6, x7, x8, x532000, x532001, rfl, H⟩ := ht; obtain ⟨m, hm, H⟩ := impl_BatchOk.l0_s H; simp only [impl_BatchOk.l0] at H; (try (conv => cbv)))
    | ((with_reducible refine hN0 _ ⟨_, ?lt, head_ ⟨[1, 6, 7, 8], [1], [], []⟩ ⟨by omega, _, _, _, _, _, rfl, H⟩ (by cbv) f_ f_⟩); (case lt => omega))
    | ((with_reducible refine hX0 _ _ ne_ret ?_); (try (conv => cbv)))
    | ((with_reducible refine hX0 _ _ (ne_exit _) ?_); (try (conv => cbv)))
    | ((with_reducible first | refine end_ ⟨[2], [], [], []⟩ 58 hQ (by cbv) ?_ | refine end_ ⟨[2], [], [], []⟩ 58 hQn (by cbv) ?_); (with_reducible have hS := Option.some.inj H); clear hS; cases H; exact f_)
    | contradiction
theorem impl_vars.l0_s {k : Nat} {x4 : List Int} {x9 : List Int} {x10 : Int} {x11 : Int} {r : _} (h : impl_vars.l0 k x4 x9 x10 x11 = some r) : ∃ m, k = m + 1 ∧ impl_vars.l0 (m + 1) x4 x9 x10 x11 = some r := by
  cases k with
  | zero => simp [impl_vars.l0] at h
  | succ m => exact ⟨m, rfl, h⟩
set_option maxRecDepth 100000 in
set_option maxHeartbeats 4000000 in
theorem impl_vars.con (E : En) (hE : E = E0) {k : Nat} {l0 : List Int} {r1 : ByteArray} {r2 : Bool} (H : impl_vars.f k l0 = some (r1, r2)) :
    Con Tryz.prog TBX 180 [.c (.sl [.int .i64] (E.eI .i64 l0))] [] (.tup [.c (.str r1), .c (.bool r2)]) [] [] := by
  refine con_of Tryz.func180 rfl (by kernel_rfl) tabOk [] (Nat.le_of_ble_eq_true rfl) (fun F hF Q hQ hQn => ?_)
  simp only [impl_vars.f] at H
  (conv => cbv)
  repeat' first
    | replace H := s_ H
    | (rw [itn_iff] at H; obtain ⟨hc, H⟩ := H)
    | (rw [itn2_iff] at H; obtain ⟨hc, H⟩ := H)
    | ((with_reducible refine br_ hF (fun hb => ?_) (fun hb => ?_)) <;> ((try simp only [hF, hE] at hb); (try simp only [hs, vs] at hb); first | rw [if_pos hb] at H | rw [if_neg hb] at H | rw [if_nn hb] at H | replace H := i_ hb H | (simp only [hb, not_t, b_f, not_true_eq_false, not_false_eq_true, Bool.not_true, Bool.not_false, Bool.false_eq_true, if_true, if_false] at H) | skip) <;> (try (conv => cbv)))
    | (refine w_ hF ?_; (try (conv => cbv)))
    | ((with_reducible show Hd.call F 183 _ _ _); rw [bind_iff] at H; obtain ⟨⟨y1, y2⟩, hy, H⟩ := H; (try dsimp only at H); refine call_ hF (impl_VarText.con E hE hy) f_ f_ ?_; (try (conv => cbv)))
    | ((with_reducible refine loop_ hF (fun n t => n ≤ k ∧ ∃ (x4 : List Int) (x9 : List Int) (x10 : Int) (x11 : Int), t = At 28 [(4, .own 20004), (9, .c (.sl [.int .i64] (E.eI .i64 x9))), (10, .c (.int .i64 x10)), (11, .c (.int .i64 x11))] [(20004, .row false 5 [.int .u8] (E.eI .u8 x4))] ∧ impl_vars.l0 n x4 x9 x10 x11 = some (r1, r2)) _ (head_ ⟨[4, 9, 10, 11], [], [(4, 5)], []⟩ ⟨by omega, _, _, _, _, rfl, H⟩ (by cbv) f_ f_) (fun n0 t ht Q0 hN0 hX0 => ?_)); obtain ⟨hle0, x4, x9, x10, x11, rfl, H⟩ := ht; obtain ⟨m, hm, H⟩ := impl_vars.l0_s H; simp only [impl_vars.l0] at H; (try (conv => cbv)))
    | ((with_reducible refine hN0 _ ⟨_, ?lt, head_ ⟨[4, 9, 10, 11], [], [(4, 5)], []⟩ ⟨by omega, _, _, _, _, rfl, H⟩ (by cbv) f_ f_⟩); (case lt => omega))
    | ((with_reducible refine hX0 _ _ ne_ret ?_); (try (conv => cbv)))
    | ((with_reducible refine hX0 _ _ (ne_exit _) ?_); (try (conv => cbv)))
    | ((with_reducible first | refine end_ ⟨[2, 3], [], [], []⟩ 28 hQ (by cbv) ?_ | refine end_ ⟨[2, 3], [], [], []⟩ 28 hQn (by cbv) ?_); (with_reducible have hS := Option.some.inj H); clear hS; cases H; exact f_)
    | contradiction
set_option maxRecDepth 100000 in
set_option maxHeartbeats 4000000 in
theorem impl_ShortText.con (E : En) (hE : E = E0) {k : Nat} {a0 : ByteArray} {r1 : ByteArray} {r2 : Bool} (H : impl_ShortText.f k a0 = some (r1, r2)) :
    Con Tryz.prog TBX 217 [.c (.str a0)] [] (.tup [.c (.str r1), .c (.bool r2)]) [] [] := by
  refine con_of Tryz.func217 rfl (by kernel_rfl) tabOk [] (Nat.le_of_ble_eq_true rfl) (fun F hF Q hQ hQn => ?_)
  simp only [impl_ShortText.f] at H
  (conv => cbv)
  repeat' first
    | replace H := s_ H
    | (rw [itn_iff] at H; obtain ⟨hc, H⟩ := H)
    | (rw [itn2_iff] at H; obtain ⟨hc, H⟩ := H)
    | ((with_reducible refine br_ hF (fun hb => ?_) (fun hb => ?_)) <;> ((try simp only [hF, hE] at hb); (try simp only [hs, vs] at hb); first | rw [if_pos hb] at H | rw [if_neg hb] at H | rw [if_nn hb] at H | replace H := i_ hb H | (simp only [hb, not_t, b_f, not_true_eq_false, not_false_eq_true, Bool.not_true, Bool.not_false, Bool.false_eq_true, if_true, if_false] at H) | skip) <;> (try (conv => cbv)))
    | (refine w_ hF ?_; (try (conv => cbv)))
    | ((with_reducible show Hd.call F 183 _ _ _); rw [bind_iff] at H; obtain ⟨⟨y1, y2⟩, hy, H⟩ := H; (try dsimp only at H); refine call_ hF (impl_VarText.con E hE hy) f_ f_ ?_; (try (conv => cbv)))
    | ((with_reducible first | refine end_ ⟨[2, 3], [], [], []⟩ 18 hQ (by cbv) ?_ | refine end_ ⟨[2, 3], [], [], []⟩ 18 hQn (by cbv) ?_); (with_reducible have hS := Option.some.inj H); clear hS; cases H; exact f_)
    | contradiction
set_option maxRecDepth 100000 in
set_option maxHeartbeats 4000000 in
theorem impl_short.con (E : En) (hE : E = E0) {k : Nat} {a0 : ByteArray} {r : ByteArray} (H : impl_short.f k a0 = some (r)) :
    Con Tryz.prog TBX 181 [.c (.str a0)] [] (.c (.str r)) [] [] := by
  refine con_of Tryz.func181 rfl (by kernel_rfl) tabOk [] (Nat.le_of_ble_eq_true rfl) (fun F hF Q hQ hQn => ?_)
  simp only [impl_short.f] at H
  (conv => cbv)
  repeat' first
    | replace H := s_ H
    | (rw [itn_iff] at H; obtain ⟨hc, H⟩ := H)
    | (rw [itn2_iff] at H; obtain ⟨hc, H⟩ := H)
    | ((with_reducible refine br_ hF (fun hb => ?_) (fun hb => ?_)) <;> ((try simp only [hF, hE] at hb); (try simp only [hs, vs] at hb); first | rw [if_pos hb] at H | rw [if_neg hb] at H | rw [if_nn hb] at H | replace H := i_ hb H | (simp only [hb, not_t, b_f, not_true_eq_false, not_false_eq_true, Bool.not_true, Bool.not_false, Bool.false_eq_true, if_true, if_false] at H) | skip) <;> (try (conv => cbv)))
    | (refine w_ hF ?_; (try (conv => cbv)))
    | ((with_reducible show Hd.call F 217 _ _ _); rw [bind_iff] at H; obtain ⟨⟨y1, y2⟩, hy, H⟩ := H; (try dsimp only at H); refine call_ hF (impl_ShortText.con E hE hy) f_ f_ ?_; (try (conv => cbv)))
    | ((with_reducible first | refine end_ ⟨[2], [], [], []⟩ 11 hQ (by cbv) ?_ | refine end_ ⟨[2], [], [], []⟩ 11 hQn (by cbv) ?_); (with_reducible have hS := Option.some.inj H); clear hS; cases H; exact f_)
    | contradiction
set_option maxRecDepth 100000 in
set_option maxHeartbeats 4000000 in
theorem impl_flag.con (E : En) (hE : E = E0) {a0 : Bool} {r : ByteArray} (H : impl_flag.f a0 = some (r)) :
    Con Tryz.prog TBX 182 [.c (.bool a0)] [] (.c (.str r)) [] [] := by
  refine con_of Tryz.func182 rfl (by kernel_rfl) tabOk [] (Nat.le_of_ble_eq_true rfl) (fun F hF Q hQ hQn => ?_)
  simp only [impl_flag.f] at H
  (conv => cbv)
  repeat' first
    | replace H := s_ H
    | (rw [itn_iff] at H; obtain ⟨hc, H⟩ := H)
    | (rw [itn2_iff] at H; obtain ⟨hc, H⟩ := H)
    | ((with_reducible refine br_ hF (fun hb => ?_) (fun hb => ?_)) <;> ((try simp only [hF, hE] at hb); (try simp only [hs, vs] at hb); first | rw [if_pos hb] at H | rw [if_neg hb] at H | rw [if_nn hb] at H | replace H := i_ hb H | (simp only [hb, not_t, b_f, not_true_eq_false, not_false_eq_true, Bool.not_true, Bool.not_false, Bool.false_eq_true, if_true, if_false] at H) | skip) <;> (try (conv => cbv)))
    | (refine w_ hF ?_; (try (conv => cbv)))
    | ((with_reducible first | refine end_ ⟨[2], [], [], []⟩ 4 hQ (by cbv) ?_ | refine end_ ⟨[2], [], [], []⟩ 4 hQn (by cbv) ?_); (with_reducible have hS := Option.some.inj H); clear hS; cases H; exact f_)
    | contradiction
theorem impl_BatchText.l0_s {k : Nat} {x4 : ByteArray} {x22 : List S162} {x23 : Int} {x24 : Int} {r : _} (h : impl_BatchText.l0 k x4 x22 x23 x24 = some r) : ∃ m, k = m + 1 ∧ impl_BatchText.l0 (m + 1) x4 x22 x23 x24 = some r := by
  cases k with
  | zero => simp [impl_BatchText.l0] at h
  | succ m => exact ⟨m, rfl, h⟩
set_option maxRecDepth 100000 in
set_option maxHeartbeats 4000000 in
theorem impl_BatchText.con (E : En) (hE : E = E0) {k : Nat} {a0_0 : Int} {l0_1 : List S162} {r1 : ByteArray} {r2 : Bool} (H : impl_BatchText.f k a0_0 l0_1 = some (r1, r2)) :
    Con Tryz.prog TBX 99 [.agg [.c (.int .i64 a0_0), .c (.sl [.str, .str, .bool] (E.e162 l0_1))]] [] (.tup [.c (.str r1), .c (.bool r2)]) [] [] := by
  refine con_of Tryz.func99 rfl (by kernel_rfl) tabOk [] (Nat.le_of_ble_eq_true rfl) (fun F hF Q hQ hQn => ?_)
  simp only [impl_BatchText.f] at H
  (conv => cbv)
  repeat' first
    | replace H := s_ H
    | (rw [itn_iff] at H; obtain ⟨hc, H⟩ := H)
    | (rw [itn2_iff] at H; obtain ⟨hc, H⟩ := H)
    | ((with_reducible refine br_ hF (fun hb => ?_) (fun hb => ?_)) <;> ((try simp only [hF, hE] at hb); (try simp only [hs, vs] at hb); first | rw [if_pos hb] at H | rw [if_neg hb] at H | rw [if_nn hb] at H | replace H := i_ hb H | (simp only [hb, not_t, b_f, not_true_eq_false, not_false_eq_true, Bool.not_true, Bool.not_false, Bool.false_eq_true, if_true, if_false] at H) | skip) <;> (try (conv => cbv)))
    | (refine w_ hF ?_; (try (conv => cbv)))
    | ((with_reducible show Hd.call F 179 _ _ _); rw [bind_iff] at H; obtain ⟨y, hy, H⟩ := H; (try dsimp only at H); refine call_ hF (impl_BatchOk.con E hE hy) f_ f_ ?_; (try (conv => cbv)))
    | ((with_reducible show Hd.call F 180 _ _ _); rw [bind_iff] at H; obtain ⟨⟨y1, y2⟩, hy, H⟩ := H; (try dsimp only at H); refine call_ hF (impl_vars.con E hE hy) f_ f_ ?_; (try (conv => cbv)))
    | ((with_reducible show Hd.call F 181 _ _ _); rw [bind_iff] at H; obtain ⟨y, hy, H⟩ := H; (try dsimp only at H); refine call_ hF (impl_short.con E hE hy) f_ f_ ?_; (try (conv => cbv)))
    | ((with_reducible show Hd.call F 182 _ _ _); rw [bind_iff] at H; obtain ⟨y, hy, H⟩ := H; (try dsimp only at H); refine call_ hF (impl_flag.con E hE hy) f_ f_ ?_; (try (conv => cbv)))
    | ((with_reducible refine loop_ hF (fun n t => n ≤ k ∧ ∃ (x4 : ByteArray) (x22 : List S162) (x23 : Int) (x24 : Int), t = At 43 [(4, .c (.str x4)), (22, .c (.sl [.str, .str, .bool] (E.e162 x22))), (23, .c (.int .i64 x23)), (24, .c (.int .i64 x24))] [] ∧ impl_BatchText.l0 n x4 x22 x23 x24 = some (r1, r2)) _ (head_ ⟨[4, 22, 23, 24], [], [], []⟩ ⟨by omega, _, _, _, _, rfl, H⟩ (by cbv) f_ f_) (fun n0 t ht Q0 hN0 hX0 => ?_)); obtain ⟨hle0, x4, x22, x23, x24, rfl, H⟩ := ht; obtain ⟨m, hm, H⟩ := impl_BatchText.l0_s H; simp only [impl_BatchText.l0] at H; (try (conv => cbv)))
    | ((with_reducible refine hN0 _ ⟨_, ?lt, head_ ⟨[4, 22, 23, 24], [], [], []⟩ ⟨by omega, _, _, _, _, rfl, H⟩ (by cbv) f_ f_⟩); (case lt => omega))
    | ((with_reducible refine hX0 _ _ ne_ret ?_); (try (conv => cbv)))
    | ((with_reducible refine hX0 _ _ (ne_exit _) ?_); (try (conv => cbv)))
    | ((with_reducible first | refine end_ ⟨[2, 3], [], [], []⟩ 43 hQ (by cbv) ?_ | refine end_ ⟨[2, 3], [], [], []⟩ 43 hQn (by cbv) ?_); (with_reducible have hS := Option.some.inj H); clear hS; cases H; exact f_)
    | contradiction
set_option maxRecDepth 100000 in
set_option maxHeartbeats 4000000 in
theorem impl_ReadBatch.con (E : En) (hE : E = E0) {k : Nat} {a0 : ByteArray} {r1 : Int} {r2 : List S162} {r3 : Bool} (H : impl_ReadBatch.f k a0 = some (r1, r2, r3)) :
    Con Tryz.prog TBX 147 [.c (.str a0)] [] (.tup [.agg [.c (.int .i64 r1), .own 0], .c (.bool r3)]) [.row false 162 [.str, .str, .bool] (E.e162 r2)] [] := by
  refine con_of Tryz.func147 rfl (by kernel_rfl) tabOkM [400041] (Nat.le_of_ble_eq_true rfl) (fun F hF Q hQ hQn => ?_)
  simp only [impl_ReadBatch.f] at H
  (conv => cbv)
  repeat' first
    | replace H := s_ H
    | (rw [itn_iff] at H; obtain ⟨hc, H⟩ := H)
    | (rw [itn2_iff] at H; obtain ⟨hc, H⟩ := H)
    | ((with_reducible refine br_ hF (fun hb => ?_) (fun hb => ?_)) <;> ((try simp only [hF, hE] at hb); (try simp only [hs, vs] at hb); first | rw [if_pos hb] at H | rw [if_neg hb] at H | rw [if_nn hb] at H | replace H := i_ hb H | (simp only [hb, not_t, b_f, not_true_eq_false, not_false_eq_true, Bool.not_true, Bool.not_false, Bool.false_eq_true, if_true, if_false] at H) | skip) <;> (try (conv => cbv)))
    | (refine w_ hF ?_; (try (conv => cbv)))
    | ((with_reducible show Hd.call F 158 _ _ _); rw [bind_iff] at H; obtain ⟨⟨y1, y2, y3, y4⟩, hy, H⟩ := H; (try dsimp only at H); refine call_ hF (impl_reader_num.con E hE hy) f_ f_ ?_; (try (conv => cbv)))
    | ((with_reducible show Hd.call F 156 _ _ _); rw [bind_iff] at H; obtain ⟨⟨y1, y2, y3, y4, y5⟩, hy, H⟩ := H; (try dsimp only at H); refine call_ hF (each_ReadBatch_c1.con E hE hy) f_ f_ ?_; (try (conv => cbv)))
    | ((with_reducible show Hd.call F 99 _ _ _); rw [bind_iff] at H; obtain ⟨⟨y1, y2⟩, hy, H⟩ := H; (try dsimp only at H); refine call_ hF (impl_BatchText.con E hE hy) f_ f_ ?_; (try (conv => cbv)))
    | ((with_reducible first | refine end_ ⟨[2, 3], [2], [], [(2, 1, 162)]⟩ 37 hQ (by cbv) ?_ | refine end_ ⟨[2, 3], [2], [], [(2, 1, 162)]⟩ 37 hQn (by cbv) ?_); (with_reducible have hS := Option.some.inj H); clear hS; cases H; exact f_)
    | contradiction
end Go.Ev

