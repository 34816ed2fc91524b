/- Contracts of the Go functions that this law reaches: what each call returns, by its plain function. No conditions but those that each statement names. By this repo's programs; comments are taken out. -/
import Derived.Test.YtlmicldpfnmeaaaGreatDoorVFnExactOpenShelfD
import Derived.Test.YtlmicldpfnmeaaaGreatDoorVFnExactOpenShelfC6
set_option linter.all false
namespace Go.Ev
open Go.RowKit Go.Proofs Go.Proofs.YtlmicldpfnmeaaaGreatDoorW.PrintWords Go.Proofs.YtlmicldpfnmeaaaGreatDoorW.PrintLast Go.Proofs.YtlmicldpfnmeaaaGreatDoorW.PrintMore
set_option maxRecDepth 100000 in
set_option maxHeartbeats 4000000 in
theorem impl_SumOf.con (E : En) (hE : E = E0) {k : Nat} {a0 : ByteArray} {r : Int} (H : impl_SumOf.f k a0 = some (r)) :
    Con Tryz.prog TBX 184 [.c (.str a0)] [] (.c (.int .u32 r)) [] [] := by
  refine con_of Tryz.func184 rfl (by kernel_rfl) tabOk [] (Nat.le_of_ble_eq_true rfl) (fun F hF Q hQ hQn => ?_)
  simp only [impl_SumOf.f] at H
  (conv => cbv)
  repeat' first
    | replace H := s_ H
    | (rw [itn_iff] at H; obtain ⟨hc, H⟩ := H)
    | (rw [itn2_iff] at H; obtain ⟨hc, H⟩ := H)
    | ((with_reducible refine br_ hF (fun hb => ?_) (fun hb => ?_)) <;> ((try simp only [hF, hE] at hb); (try simp only [hs, vs] at hb); first | rw [if_pos hb] at H | rw [if_neg hb] at H | rw [if_nn hb] at H | replace H := i_ hb H | (simp only [hb, not_t, b_f, not_true_eq_false, not_false_eq_true, Bool.not_true, Bool.not_false, Bool.false_eq_true, if_true, if_false] at H) | skip) <;> (try (conv => cbv)))
    | (refine w_ hF ?_; (try (conv => cbv)))
    | ((with_reducible show Hd.call F 218 _ _ _); rw [bind_iff] at H; obtain ⟨y, hy, H⟩ := H; (try dsimp only at H); refine call_ hF (impl_SumMore.con E hE hy) f_ f_ ?_; (try (conv => cbv)))
    | ((with_reducible first | refine end_ ⟨[2], [], [], []⟩ 5 hQ (by cbv) ?_ | refine end_ ⟨[2], [], [], []⟩ 5 hQn (by cbv) ?_); (with_reducible have hS := Option.some.inj H); clear hS; cases H; exact f_)
    | contradiction
set_option maxRecDepth 100000 in
set_option maxHeartbeats 4000000 in
theorem impl_Sealed.con (E : En) (hE : E = E0) {k : Nat} {a0 : ByteArray} {r1 : ByteArray} {r2 : Bool} (H : impl_Sealed.f k a0 = some (r1, r2)) :
    Con Tryz.prog TBX 208 [.c (.str a0)] [] (.tup [.c (.str r1), .c (.bool r2)]) [] [] := by
  refine con_of Tryz.func208 rfl (by kernel_rfl) tabOk [] (Nat.le_of_ble_eq_true rfl) (fun F hF Q hQ hQn => ?_)
  simp only [impl_Sealed.f] at H
  (conv => cbv)
  repeat' first
    | replace H := s_ H
    | (rw [itn_iff] at H; obtain ⟨hc, H⟩ := H)
    | (rw [itn2_iff] at H; obtain ⟨hc, H⟩ := H)
    | ((with_reducible refine br_ hF (fun hb => ?_) (fun hb => ?_)) <;> ((try simp only [hF, hE] at hb); (try simp only [hs, vs] at hb); first | rw [if_pos hb] at H | rw [if_neg hb] at H | rw [if_nn hb] at H | replace H := i_ hb H | (simp only [hb, not_t, b_f, not_true_eq_false, not_false_eq_true, Bool.not_true, Bool.not_false, Bool.false_eq_true, if_true, if_false] at H) | skip) <;> (try (conv => cbv)))
    | (refine w_ hF ?_; (try (conv => cbv)))
    | ((with_reducible show Hd.call F 184 _ _ _); rw [bind_iff] at H; obtain ⟨y, hy, H⟩ := H; (try dsimp only at H); refine call_ hF (impl_SumOf.con E hE hy) f_ f_ ?_; (try (conv => cbv)))
    | ((with_reducible first | refine end_ ⟨[2, 3], [], [], []⟩ 25 hQ (by cbv) ?_ | refine end_ ⟨[2, 3], [], [], []⟩ 25 hQn (by cbv) ?_); (with_reducible have hS := Option.some.inj H); clear hS; cases H; exact f_)
    | contradiction
set_option maxRecDepth 100000 in
set_option maxHeartbeats 4000000 in
theorem impl_Unsealed.con (E : En) (hE : E = E0) {k : Nat} {a0 : ByteArray} {r1 : ByteArray} {r2 : Bool} (H : impl_Unsealed.f k a0 = some (r1, r2)) :
    Con Tryz.prog TBX 155 [.c (.str a0)] [] (.tup [.c (.str r1), .c (.bool r2)]) [] [] := by
  refine con_of Tryz.func155 rfl (by kernel_rfl) tabOk [] (Nat.le_of_ble_eq_true rfl) (fun F hF Q hQ hQn => ?_)
  simp only [impl_Unsealed.f] at H
  (conv => cbv)
  repeat' first
    | replace H := s_ H
    | (rw [itn_iff] at H; obtain ⟨hc, H⟩ := H)
    | (rw [itn2_iff] at H; obtain ⟨hc, H⟩ := H)
    | ((with_reducible refine br_ hF (fun hb => ?_) (fun hb => ?_)) <;> ((try simp only [hF, hE] at hb); (try simp only [hs, vs] at hb); first | rw [if_pos hb] at H | rw [if_neg hb] at H | rw [if_nn hb] at H | replace H := i_ hb H | (simp only [hb, not_t, b_f, not_true_eq_false, not_false_eq_true, Bool.not_true, Bool.not_false, Bool.false_eq_true, if_true, if_false] at H) | skip) <;> (try (conv => cbv)))
    | (refine w_ hF ?_; (try (conv => cbv)))
    | ((with_reducible show Hd.call F 208 _ _ _); rw [bind_iff] at H; obtain ⟨⟨y1, y2⟩, hy, H⟩ := H; (try dsimp only at H); refine call_ hF (impl_Sealed.con E hE hy) f_ f_ ?_; (try (conv => cbv)))
    | ((with_reducible first | refine end_ ⟨[2, 3], [], [], []⟩ 28 hQ (by cbv) ?_ | refine end_ ⟨[2, 3], [], [], []⟩ 28 hQn (by cbv) ?_); (with_reducible have hS := Option.some.inj H); clear hS; cases H; exact f_)
    | contradiction
theorem impl_VarText.l0_s {k : Nat} {x0 : Int} {x4 : List Int} {r : _} (h : impl_VarText.l0 k x0 x4 = some r) : ∃ m, k = m + 1 ∧ impl_VarText.l0 (m + 1) x0 x4 = some r := by
  cases k with
  | zero => simp [impl_VarText.l0] at h
  | succ m => exact ⟨m, rfl, h⟩
set_option maxRecDepth 100000 in
set_option maxHeartbeats 4000000 in
theorem impl_VarText.con (E : En) (hE : E = E0) {k : Nat} {a0 : Int} {r1 : ByteArray} {r2 : Bool} (H : impl_VarText.f k a0 = some (r1, r2)) :
    Con Tryz.prog TBX 183 [.c (.int .i64 a0)] [] (.tup [.c (.str r1), .c (.bool r2)]) [] [] := by
  refine con_of Tryz.func183 rfl (by kernel_rfl) tabOk [] (Nat.le_of_ble_eq_true rfl) (fun F hF Q hQ hQn => ?_)
  simp only [impl_VarText.f] at H
  (conv => cbv)
  repeat' first
    | replace H := s_ H
    | (rw [itn_iff] at H; obtain ⟨hc, H⟩ := H)
    | (rw [itn2_iff] at H; obtain ⟨hc, H⟩ := H)
    | ((with_reducible refine br_ hF (fun hb => ?_) (fun hb => ?_)) <;> ((try simp only [hF, hE] at hb); (try simp only [hs, vs] at hb); first | rw [if_pos hb] at H | rw [if_neg hb] at H | rw [if_nn hb] at H | replace H := i_ hb H | (simp only [hb, not_t, b_f, not_true_eq_false, not_false_eq_true, Bool.not_true, Bool.not_false, Bool.false_eq_true, if_true, if_false] at H) | skip) <;> (try (conv => cbv)))
    | (refine w_ hF ?_; (try (conv => cbv)))
    | ((with_reducible show Hd.call F 144 _ _ _); rw [bind_iff] at H; obtain ⟨y, hy, H⟩ := H; (try dsimp only at H); refine call_ hF (impl_within.con E hE hy) f_ f_ ?_; (try (conv => cbv)))
    | ((with_reducible refine loop_ hF (fun n t => n ≤ k ∧ ∃ (x0 : Int) (x4 : List Int), t = At 25 [(0, .c (.int .i64 x0)), (4, .own 20004)] [(20004, .row false 5 [.int .u8] (E.eI .u8 x4))] ∧ impl_VarText.l0 n x0 x4 = some (r1, r2)) _ (head_ ⟨[0, 4], [], [(4, 5)], []⟩ ⟨by omega, _, _, rfl, H⟩ (by cbv) f_ f_) (fun n0 t ht Q0 hN0 hX0 => ?_)); obtain ⟨hle0, x0, x4, rfl, H⟩ := ht; obtain ⟨m, hm, H⟩ := impl_VarText.l0_s H; simp only [impl_VarText.l0] at H; (try (conv => cbv)))
    | ((with_reducible refine hN0 _ ⟨_, ?lt, head_ ⟨[0, 4], [], [(4, 5)], []⟩ ⟨by omega, _, _, rfl, H⟩ (by cbv) f_ f_⟩); (case lt => omega))
    | ((with_reducible refine hX0 _ _ ne_ret ?_); (try (conv => cbv)))
    | ((with_reducible refine hX0 _ _ (ne_exit _) ?_); (try (conv => cbv)))
    | ((with_reducible first | refine end_ ⟨[2, 3], [], [], []⟩ 25 hQ (by cbv) ?_ | refine end_ ⟨[2, 3], [], [], []⟩ 25 hQn (by cbv) ?_); (with_reducible have hS := Option.some.inj H); clear hS; cases H; exact f_)
    | contradiction
theorem impl_ReadVar.l0_s {k : Nat} {x0 : ByteArray} {x1 : Int} {x7 : Int} {x8 : Int} {r : _} (h : impl_ReadVar.l0 k x0 x1 x7 x8 = some r) : ∃ m, k = m + 1 ∧ impl_ReadVar.l0 (m + 1) x0 x1 x7 x8 = some r := by
  cases k with
  | zero => simp [impl_ReadVar.l0] at h
  | succ m => exact ⟨m, rfl, h⟩
theorem impl_ReadVar.j1_s {k : Nat} {x0 : ByteArray} {x1 : Int} {x7 : Int} {x8 : Int} {x26 : Bool} {r : _} (h : impl_ReadVar.j1 k x0 x1 x7 x8 x26 = some r) : ∃ m, k = m + 1 ∧ impl_ReadVar.j1 (m + 1) x0 x1 x7 x8 x26 = some r := by
  cases k with
  | zero => simp [impl_ReadVar.j1] at h
  | succ m => exact ⟨m, rfl, h⟩
theorem impl_ReadVar.j1_i {k : Nat} {x0 : ByteArray} {x1 : Int} {x7 : Int} {x8 : Int} {x26 : Bool} {r : _} : (impl_ReadVar.j1 k x0 x1 x7 x8 x26 = some r) = (∃ m, k = m + 1 ∧ impl_ReadVar.j1 (m + 1) x0 x1 x7 x8 x26 = some r) := propext ⟨impl_ReadVar.j1_s, fun ⟨m, h, h2⟩ => by rw [h]; exact h2⟩
set_option maxRecDepth 100000 in
set_option maxHeartbeats 4000000 in
theorem impl_ReadVar.con (E : En) (hE : E = E0) {k : Nat} {a0 : ByteArray} {a1 : Int} {r1 : Int} {r2 : Int} {r3 : Bool} (H : impl_ReadVar.f k a0 a1 = some (r1, r2, r3)) :
    Con Tryz.prog TBX 203 [.c (.str a0), .c (.int .i64 a1)] [] (.tup [.c (.int .i64 r1), .c (.int .i64 r2), .c (.bool r3)]) [] [] := by
  refine con_of Tryz.func203 rfl (by kernel_rfl) tabOk [] (Nat.le_of_ble_eq_true rfl) (fun F hF Q hQ hQn => ?_)
  simp only [impl_ReadVar.f] at H
  (conv => cbv)
  repeat' first
    | (rw [impl_ReadVar.j1_i] at H; obtain ⟨m, hm, H⟩ := H; simp only [impl_ReadVar.j1] at H; (try simp only [decide_eq_true_eq, Bool.false_eq_true, if_false, if_true] at H))
    | replace H := s_ H
    | (rw [itn_iff] at H; obtain ⟨hc, H⟩ := H)
    | (rw [itn2_iff] at H; obtain ⟨hc, H⟩ := H)
    | ((with_reducible refine br_ hF (fun hb => ?_) (fun hb => ?_)) <;> ((try simp only [hF, hE] at hb); (try simp only [hs, vs] at hb); first | rw [if_pos hb] at H | rw [if_neg hb] at H | rw [if_nn hb] at H | replace H := i_ hb H | (simp only [hb, not_t, b_f, not_true_eq_false, not_false_eq_true, Bool.not_true, Bool.not_false, Bool.false_eq_true, if_true, if_false] at H) | skip) <;> (try (conv => cbv)))
    | (refine w_ hF ?_; (try (conv => cbv)))
    | ((with_reducible show Hd.call F 144 _ _ _); rw [bind_iff] at H; obtain ⟨y, hy, H⟩ := H; (try dsimp only at H); refine call_ hF (impl_within.con E hE hy) f_ f_ ?_; (try (conv => cbv)))
    | ((with_reducible show Hd.call F 183 _ _ _); rw [bind_iff] at H; obtain ⟨⟨y1, y2⟩, hy, H⟩ := H; (try dsimp only at H); refine call_ hF (impl_VarText.con E hE hy) f_ f_ ?_; (try (conv => cbv)))
    | ((with_reducible refine loop_ hF (fun n t => n ≤ k ∧ ∃ (x0 : ByteArray) (x1 : Int) (x7 : Int) (x8 : Int), t = At 63 [(0, .c (.str x0)), (1, .c (.int .i64 x1)), (7, .c (.int .i64 x7)), (8, .c (.int .i64 x8))] [] ∧ impl_ReadVar.l0 n x0 x1 x7 x8 = some (r1, r2, r3)) _ (head_ ⟨[0, 1, 7, 8], [], [], []⟩ ⟨by omega, _, _, _, _, rfl, H⟩ (by cbv) f_ f_) (fun n0 t ht Q0 hN0 hX0 => ?_)); obtain ⟨hle0, x0, x1, x7, x8, rfl, H⟩ := ht; obtain ⟨m, hm, H⟩ := impl_ReadVar.l0_s H; simp only [impl_ReadVar.l0] at H; (try (conv => cbv)))
    | ((with_reducible refine hN0 _ ⟨_, ?lt, head_ ⟨[0, 1, 7, 8], [], [], []⟩ ⟨by omega, _, _, _, _, rfl, H⟩ (by cbv) f_ f_⟩); (case lt => omega))
    | ((with_reducible refine hX0 _ _ ne_ret ?_); (try (conv => cbv)))
    | ((with_reducible refine hX0 _ _ (ne_exit _) ?_); (try (conv => cbv)))
    | ((with_reducible first | refine end_ ⟨[4, 5, 6], [], [], []⟩ 63 hQ (by cbv) ?_ | refine end_ ⟨[4, 5, 6], [], [], []⟩ 63 hQn (by cbv) ?_); (with_reducible have hS := Option.some.inj H); clear hS; cases H; exact f_)
    | contradiction
set_option maxRecDepth 100000 in
set_option maxHeartbeats 4000000 in
theorem impl_reader_num.con (E : En) (hE : E = E0) {k : Nat} {s0_0 : ByteArray} {s0_1 : Int} {s0_2 : Bool} {r1 : Int} {r2 : ByteArray} {r3 : Int} {r4 : Bool} (H : impl_reader_num.f k s0_0 s0_1 s0_2 = some (r1, r2, r3, r4)) :
    Con Tryz.prog TBX 158 [.ptr 10000 0] [.box [.c (.str s0_0), .c (.int .i64 s0_1), .c (.bool s0_2)]] (.c (.int .i64 r1)) [] [.box [.c (.str r2), .c (.int .i64 r3), .c (.bool r4)]] := by
  refine con_of Tryz.func158 rfl (by kernel_rfl) tabOk [] (Nat.le_of_ble_eq_true rfl) (fun F hF Q hQ hQn => ?_)
  simp only [impl_reader_num.f] at H
  (conv => cbv)
  repeat' first
    | replace H := s_ H
    | (rw [itn_iff] at H; obtain ⟨hc, H⟩ := H)
    | (rw [itn2_iff] at H; obtain ⟨hc, H⟩ := H)
    | ((with_reducible refine br_ hF (fun hb => ?_) (fun hb => ?_)) <;> ((try simp only [hF, hE] at hb); (try simp only [hs, vs] at hb); first | rw [if_pos hb] at H | rw [if_neg hb] at H | rw [if_nn hb] at H | replace H := i_ hb H | (simp only [hb, not_t, b_f, not_true_eq_false, not_false_eq_true, Bool.not_true, Bool.not_false, Bool.false_eq_true, if_true, if_false] at H) | skip) <;> (try (conv => cbv)))
    | (refine w_ hF ?_; (try (conv => cbv)))
    | ((with_reducible show Hd.call F 203 _ _ _); rw [bind_iff] at H; obtain ⟨⟨y1, y2, y3⟩, hy, H⟩ := H; (try dsimp only at H); refine call_ hF (impl_ReadVar.con E hE hy) f_ f_ ?_; (try (conv => cbv)))
    | ((with_reducible first | refine end_ ⟨[2], [], [], []⟩ 35 hQ (by cbv) ?_ | refine end_ ⟨[2], [], [], []⟩ 35 hQn (by cbv) ?_); (with_reducible have hS := Option.some.inj H); clear hS; cases H; exact f_)
    | contradiction
set_option maxRecDepth 100000 in
set_option maxHeartbeats 4000000 in
theorem impl_ReadManifest_c1.con (E : En) (hE : E = E0) {k : Nat} {l0_0 : List Int} {s0_1 : Int} {s0_2 : Int} {s0_3 : Int} {l0_4 : List Int} {s1_0_0 : ByteArray} {s1_0_1 : Int} {s1_0_2 : Bool} {r1 : List Int} {r2 : Int} {r3 : Int} {r4 : Int} {r5 : List Int} {r6 : ByteArray} {r7 : Int} {r8 : Bool} (H : impl_ReadManifest_c1.f k l0_0 s0_1 s0_2 s0_3 l0_4 s1_0_0 s1_0_1 s1_0_2 = some (r1, r2, r3, r4, r5, r6, r7, r8)) :
    Con Tryz.prog TBX 157 [.ptr 10000 0, .ptr 10001 0] [.box [.own 10002, .c (.int .i64 s0_1), .c (.int .i64 s0_2), .c (.int .i64 s0_3), .own 10003], .box [.ptr 10004 0], .row false 3 [.int .i64] (E.eI .i64 l0_0), .row false 3 [.int .i64] (E.eI .i64 l0_4), .box [.c (.str s1_0_0), .c (.int .i64 s1_0_1), .c (.bool s1_0_2)]] (.tup []) [.row false 3 [.int .i64] (E.eI .i64 r1)] [.box [.own 0, .c (.int .i64 r2), .c (.int .i64 r3), .c (.int .i64 r4), .own 10003], .box [.ptr 10004 0], .gone, .row false 3 [.int .i64] (E.eI .i64 r5), .box [.c (.str r6), .c (.int .i64 r7), .c (.bool r8)]] := by
  refine con_of Tryz.func157 rfl (by kernel_rfl) tabOkM [600000] (Nat.le_of_ble_eq_true rfl) (fun F hF Q hQ hQn => ?_)
  simp only [impl_ReadManifest_c1.f] at H
  (conv => cbv)
  repeat' first
    | replace H := s_ H
    | (rw [itn_iff] at H; obtain ⟨hc, H⟩ := H)
    | (rw [itn2_iff] at H; obtain ⟨hc, H⟩ := H)
    | ((with_reducible refine br_ hF (fun hb => ?_) (fun hb => ?_)) <;> ((try simp only [hF, hE] at hb); (try simp only [hs, vs] at hb); first | rw [if_pos hb] at H | rw [if_neg hb] at H | rw [if_nn hb] at H | replace H := i_ hb H | (simp only [hb, not_t, b_f, not_true_eq_false, not_false_eq_true, Bool.not_true, Bool.not_false, Bool.false_eq_true, if_true, if_false] at H) | skip) <;> (try (conv => cbv)))
    | (refine w_ hF ?_; (try (conv => cbv)))
    | ((with_reducible show Hd.call F 158 _ _ _); rw [bind_iff] at H; obtain ⟨⟨y1, y2, y3, y4⟩, hy, H⟩ := H; (try dsimp only at H); refine call_ hF (impl_reader_num.con E hE hy) f_ f_ ?_; (try (conv => cbv)))
    | ((with_reducible first | refine end_ ⟨[], [], [], [(10000, 0, 3)]⟩ 9 hQ (by cbv) ?_ | refine end_ ⟨[], [], [], [(10000, 0, 3)]⟩ 9 hQn (by cbv) ?_); (with_reducible have hS := Option.some.inj H); clear hS; cases H; exact f_)
    | contradiction
theorem each_ReadManifest_c1.l0_s {k : Nat} {x4 : Int} {x5 : Int} {y10000_0 : ByteArray} {y10000_1 : Int} {y10000_2 : Bool} {y10001_0 : List Int} {y10001_1 : Int} {y10001_2 : Int} {y10001_3 : Int} {y10001_4 : List Int} {r : _} (h : each_ReadManifest_c1.l0 k x4 x5 y10000_0 y10000_1 y10000_2 y10001_0 y10001_1 y10001_2 y10001_3 y10001_4 = some r) : ∃ m, k = m + 1 ∧ each_ReadManifest_c1.l0 (m + 1) x4 x5 y10000_0 y10000_1 y10000_2 y10001_0 y10001_1 y10001_2 y10001_3 y10001_4 = some r := by
  cases k with
  | zero => simp [each_ReadManifest_c1.l0] at h
  | succ m => exact ⟨m, rfl, h⟩
set_option maxRecDepth 100000 in
set_option maxHeartbeats 4000000 in
theorem each_ReadManifest_c1.con (E : En) (hE : E = E0) {k : Nat} {s0_0 : ByteArray} {s0_1 : Int} {s0_2 : Bool} {s1_0_1 : Int} {s1_0_2 : Int} {s1_0_3 : Int} {r1 : ByteArray} {r2 : Int} {r3 : Bool} {r4 : List Int} {r5 : Int} {r6 : Int} {r7 : Int} {r8 : List Int} (H : each_ReadManifest_c1.f k s0_0 s0_1 s0_2 s1_0_1 s1_0_2 s1_0_3 = some (r1, r2, r3, r4, r5, r6, r7, r8)) :
    Con Tryz.prog TBX 156 [.ptr 10000 0, .clo 157 [.ptr 10001 0, .ptr 10002 0]] [.box [.c (.str s0_0), .c (.int .i64 s0_1), .c (.bool s0_2)], .box [.nil [.int .i64], .c (.int .i64 s1_0_1), .c (.int .i64 s1_0_2), .c (.int .i64 s1_0_3), .nil [.int .i64]], .box [.ptr 10000 0]] (.tup []) [.row false 3 [.int .i64] (E.eI .i64 r4), .row false 3 [.int .i64] (E.eI .i64 r8)] [.box [.c (.str r1), .c (.int .i64 r2), .c (.bool r3)], .box [.own 0, .c (.int .i64 r5), .c (.int .i64 r6), .c (.int .i64 r7), .own 1], .box [.ptr 10000 0]] := by
  refine con_of Tryz.func156 rfl (by kernel_rfl) tabOkM [600020, 600024] (Nat.le_of_ble_eq_true rfl) (fun F hF Q hQ hQn => ?_)
  simp only [each_ReadManifest_c1.f] at H
  (conv => cbv)
  repeat' first
    | replace H := s_ H
    | (rw [itn_iff] at H; obtain ⟨hc, H⟩ := H)
    | (rw [itn2_iff] at H; obtain ⟨hc, H⟩ := H)
    | ((with_reducible refine br_ hF (fun hb => ?_) (fun hb => ?_)) <;> ((try simp only [hF, hE] at hb); (try simp only [hs, vs] at hb); first | rw [if_pos hb] at H | rw [if_neg hb] at H | rw [if_nn hb] at H | replace H := i_ hb H | (simp only [hb, not_t, b_f, not_true_eq_false, not_false_eq_true, Bool.not_true, Bool.not_false, Bool.false_eq_true, if_true, if_false] at H) | skip) <;> (try (conv => cbv)))
    | (refine w_ hF ?_; (try (conv => cbv)))
    | ((with_reducible show Hd.call F 158 _ _ _); rw [bind_iff] at H; obtain ⟨⟨y1, y2, y3, y4⟩, hy, H⟩ := H; (try dsimp only at H); refine call_ hF (impl_reader_num.con E hE hy) f_ f_ ?_; (try (conv => cbv)))
    | ((with_reducible show Hd.call F 157 _ _ _); rw [bind_iff] at H; obtain ⟨⟨y1, y2, y3, y4, y5, y6, y7, y8⟩, hy, H⟩ := H; (try dsimp only at H); refine call_ hF (impl_ReadManifest_c1.con E hE hy) f_ f_ ?_; (try (conv => cbv)))
    | ((with_reducible refine loop_ hF (fun n t => n ≤ k ∧ ∃ (x4 : Int) (x5 : Int) (y10000_0 : ByteArray) (y10000_1 : Int) (y10000_2 : Bool) (y10001_0 : List Int) (y10001_1 : Int) (y10001_2 : Int) (y10001_3 : Int) (y10001_4 : List Int), t = At 22 [(0, .ptr 10000 0), (1, .clo 157 [.ptr 10001 0, .ptr 10002 0]), (4, .c (.int .i64 x4)), (5, .c (.int .i64 x5))] [(10000, .box [.c (.str y10000_0), .c (.int .i64 y10000_1), .c (.bool y10000_2)]), (10001, .box [.own 600020, .c (.int .i64 y10001_1), .c (.int .i64 y10001_2), .c (.int .i64 y10001_3), .own 600024]), (10002, .box [.ptr 10000 0]), (600020, .row false 3 [.int .i64] (E.eI .i64 y10001_0)), (600024, .row false 3 [.int .i64] (E.eI .i64 y10001_4))] ∧ each_ReadManifest_c1.l0 n x4 x5 y10000_0 y10000_1 y10000_2 y10001_0 y10001_1 y10001_2 y10001_3 y10001_4 = some (r1, r2, r3, r4, r5, r6, r7, r8)) _ (head_ ⟨[0, 1, 4, 5], [], [], [(10001, 0, 3), (10001, 4, 3)]⟩ ⟨by omega, _, _, _, _, _, _, _, _, _, _, rfl, H⟩ (by cbv) f_ f_) (fun n0 t ht Q0 hN0 hX0 => ?_)); obtain ⟨hle0, x4, x5, y10000_0, y10000_1, y10000_2, y10001_0, y10001_1, y10001_2, y10001_3, y10001_4, rfl, H⟩ := ht; obtain ⟨m, hm, H⟩ := each_ReadManifest_c1.l0_s H; simp only [each_ReadManifest_c1.l0] at H; (try (conv => cbv)))
    | ((with_reducible refine hN0 _ ⟨_, ?lt, head_ ⟨[0, 1, 4, 5], [], [], [(10001, 0, 3), (10001, 4, 3)]⟩ ⟨by omega, _, _, _, _, _, _, _, _, _, _, rfl, H⟩ (by cbv) f_ f_⟩); (case lt => omega))
    | ((with_reducible refine hX0 _ _ ne_ret ?_); (try (conv => cbv)))
    | ((with_reducible refine hX0 _ _ (ne_exit _) ?_); (try (conv => cbv)))
    | ((with_reducible first | refine end_ ⟨[], [], [], [(10001, 0, 3), (10001, 4, 3)]⟩ 22 hQ (by cbv) ?_ | refine end_ ⟨[], [], [], [(10001, 0, 3), (10001, 4, 3)]⟩ 22 hQn (by cbv) ?_); (with_reducible have hS := Option.some.inj H); clear hS; cases H; exact f_)
    | contradiction
set_option maxRecDepth 100000 in
set_option maxHeartbeats 4000000 in
theorem impl_ReadManifest_c2.con (E : En) (hE : E = E0) {k : Nat} {l0_0 : List Int} {s0_1 : Int} {s0_2 : Int} {s0_3 : Int} {l0_4 : List Int} {s1_0_0 : ByteArray} {s1_0_1 : Int} {s1_0_2 : Bool} {r1 : Int} {r2 : Int} {r3 : Int} {r4 : List Int} {r5 : List Int} {r6 : ByteArray} {r7 : Int} {r8 : Bool} (H : impl_ReadManifest_c2.f k l0_0 s0_1 s0_2 s0_3 l0_4 s1_0_0 s1_0_1 s1_0_2 = some (r1, r2, r3, r4, r5, r6, r7, r8)) :
    Con Tryz.prog TBX 159 [.ptr 10000 0, .ptr 10001 0] [.box [.own 10002, .c (.int .i64 s0_1), .c (.int .i64 s0_2), .c (.int .i64 s0_3), .own 10003], .box [.ptr 10004 0], .row false 3 [.int .i64] (E.eI .i64 l0_0), .row false 3 [.int .i64] (E.eI .i64 l0_4), .box [.c (.str s1_0_0), .c (.int .i64 s1_0_1), .c (.bool s1_0_2)]] (.tup []) [.row false 3 [.int .i64] (E.eI .i64 r4)] [.box [.own 10002, .c (.int .i64 r1), .c (.int .i64 r2), .c (.int .i64 r3), .own 0], .box [.ptr 10004 0], .row false 3 [.int .i64] (E.eI .i64 r5), .gone, .box [.c (.str r6), .c (.int .i64 r7), .c (.bool r8)]] := by
  refine con_of Tryz.func159 rfl (by kernel_rfl) tabOkM [600004] (Nat.le_of_ble_eq_true rfl) (fun F hF Q hQ hQn => ?_)
  simp only [impl_ReadManifest_c2.f] at H
  (conv => cbv)
  repeat' first
    | replace H := s_ H
    | (rw [itn_iff] at H; obtain ⟨hc, H⟩ := H)
    | (rw [itn2_iff] at H; obtain ⟨hc, H⟩ := H)
    | ((with_reducible refine br_ hF (fun hb => ?_) (fun hb => ?_)) <;> ((try simp only [hF, hE] at hb); (try simp only [hs, vs] at hb); first | rw [if_pos hb] at H | rw [if_neg hb] at H | rw [if_nn hb] at H | replace H := i_ hb H | (simp only [hb, not_t, b_f, not_true_eq_false, not_false_eq_true, Bool.not_true, Bool.not_false, Bool.false_eq_true, if_true, if_false] at H) | skip) <;> (try (conv => cbv)))
    | (refine w_ hF ?_; (try (conv => cbv)))
    | ((with_reducible show Hd.call F 158 _ _ _); rw [bind_iff] at H; obtain ⟨⟨y1, y2, y3, y4⟩, hy, H⟩ := H; (try dsimp only at H); refine call_ hF (impl_reader_num.con E hE hy) f_ f_ ?_; (try (conv => cbv)))
    | ((with_reducible first | refine end_ ⟨[], [], [], [(10000, 4, 3)]⟩ 9 hQ (by cbv) ?_ | refine end_ ⟨[], [], [], [(10000, 4, 3)]⟩ 9 hQn (by cbv) ?_); (with_reducible have hS := Option.some.inj H); clear hS; cases H; exact f_)
    | contradiction
end Go.Ev

