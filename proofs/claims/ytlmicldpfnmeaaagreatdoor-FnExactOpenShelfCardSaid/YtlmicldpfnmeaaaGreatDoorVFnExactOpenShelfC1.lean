/- Contracts of the Go functions that this law reaches: what each call returns, by its plain function. No conditions but those that each statement names. By this repo's programs; comments are taken out. -/
import Derived.Test.YtlmicldpfnmeaaaGreatDoorVFnExactOpenShelfD
import Derived.Test.YtlmicldpfnmeaaaGreatDoorVFnExactOpenShelfC0
set_option linter.all false
namespace Go.Ev
open Go.RowKit Go.Proofs Go.Proofs.YtlmicldpfnmeaaaGreatDoorW.PrintWords Go.Proofs.YtlmicldpfnmeaaaGreatDoorW.PrintLast Go.Proofs.YtlmicldpfnmeaaaGreatDoorW.PrintMore
set_option maxRecDepth 100000 in
set_option maxHeartbeats 4000000 in
theorem spec_SumOf.con (E : En) (hE : E = E0) {k : Nat} {a0 : ByteArray} {r : Int} (H : spec_SumOf.f k a0 = some (r)) :
    Con Tryz.prog TBX 138 [.c (.str a0)] [] (.c (.int .u32 r)) [] [] := by
  refine con_of Tryz.func138 rfl (by kernel_rfl) tabOk [] (Nat.le_of_ble_eq_true rfl) (fun F hF Q hQ hQn => ?_)
  simp only [spec_SumOf.f] at H
  (conv => cbv)
  repeat' first
    | replace H := s_ H
    | (rw [itn_iff] at H; obtain ⟨hc, H⟩ := H)
    | (rw [itn2_iff] at H; obtain ⟨hc, H⟩ := H)
    | ((with_reducible refine br_ hF (fun hb => ?_) (fun hb => ?_)) <;> ((try simp only [hF, hE] at hb); (try simp only [hs, vs] at hb); first | rw [if_pos hb] at H | rw [if_neg hb] at H | rw [if_nn hb] at H | replace H := i_ hb H | (simp only [hb, not_t, b_f, not_true_eq_false, not_false_eq_true, Bool.not_true, Bool.not_false, Bool.false_eq_true, if_true, if_false] at H) | skip) <;> (try (conv => cbv)))
    | (refine w_ hF ?_; (try (conv => cbv)))
    | ((with_reducible show Hd.call F 198 _ _ _); rw [bind_iff] at H; obtain ⟨y, hy, H⟩ := H; (try dsimp only at H); refine call_ hF (spec_SumMore.con E hE hy) f_ f_ ?_; (try (conv => cbv)))
    | ((with_reducible first | refine end_ ⟨[2], [], [], []⟩ 5 hQ (by cbv) ?_ | refine end_ ⟨[2], [], [], []⟩ 5 hQn (by cbv) ?_); (with_reducible have hS := Option.some.inj H); clear hS; cases H; exact f_)
    | contradiction
set_option maxRecDepth 100000 in
set_option maxHeartbeats 4000000 in
theorem spec_l02Four.con (E : En) (hE : E = E0) {a0 : Int} {r : ByteArray} (H : spec_l02Four.f a0 = some (r)) :
    Con Tryz.prog TBX 137 [.c (.int .u32 a0)] [] (.c (.str r)) [] [] := by
  refine con_of Tryz.func137 rfl (by kernel_rfl) tabOk [] (Nat.le_of_ble_eq_true rfl) (fun F hF Q hQ hQn => ?_)
  simp only [spec_l02Four.f] at H
  (conv => cbv)
  repeat' first
    | replace H := s_ H
    | (rw [itn_iff] at H; obtain ⟨hc, H⟩ := H)
    | (rw [itn2_iff] at H; obtain ⟨hc, H⟩ := H)
    | ((with_reducible refine br_ hF (fun hb => ?_) (fun hb => ?_)) <;> ((try simp only [hF, hE] at hb); (try simp only [hs, vs] at hb); first | rw [if_pos hb] at H | rw [if_neg hb] at H | rw [if_nn hb] at H | replace H := i_ hb H | (simp only [hb, not_t, b_f, not_true_eq_false, not_false_eq_true, Bool.not_true, Bool.not_false, Bool.false_eq_true, if_true, if_false] at H) | skip) <;> (try (conv => cbv)))
    | (refine w_ hF ?_; (try (conv => cbv)))
    | ((with_reducible first | refine end_ ⟨[2], [], [], []⟩ 16 hQ (by cbv) ?_ | refine end_ ⟨[2], [], [], []⟩ 16 hQn (by cbv) ?_); (with_reducible have hS := Option.some.inj H); clear hS; cases H; exact f_)
    | contradiction
set_option maxRecDepth 100000 in
set_option maxHeartbeats 4000000 in
theorem spec_Unsealed.con (E : En) (hE : E = E0) {k : Nat} {a0 : ByteArray} {r1 : ByteArray} {r2 : Bool} (H : spec_Unsealed.f k a0 = some (r1, r2)) :
    Con Tryz.prog TBX 207 [.c (.str a0)] [] (.tup [.c (.str r1), .c (.bool r2)]) [] [] := by
  refine con_of Tryz.func207 rfl (by kernel_rfl) tabOk [] (Nat.le_of_ble_eq_true rfl) (fun F hF Q hQ hQn => ?_)
  simp only [spec_Unsealed.f] at H
  (conv => cbv)
  repeat' first
    | replace H := s_ H
    | (rw [itn_iff] at H; obtain ⟨hc, H⟩ := H)
    | (rw [itn2_iff] at H; obtain ⟨hc, H⟩ := H)
    | ((with_reducible refine br_ hF (fun hb => ?_) (fun hb => ?_)) <;> ((try simp only [hF, hE] at hb); (try simp only [hs, vs] at hb); first | rw [if_pos hb] at H | rw [if_neg hb] at H | rw [if_nn hb] at H | replace H := i_ hb H | (simp only [hb, not_t, b_f, not_true_eq_false, not_false_eq_true, Bool.not_true, Bool.not_false, Bool.false_eq_true, if_true, if_false] at H) | skip) <;> (try (conv => cbv)))
    | (refine w_ hF ?_; (try (conv => cbv)))
    | ((with_reducible show Hd.call F 137 _ _ _); rw [bind_iff] at H; obtain ⟨y, hy, H⟩ := H; (try dsimp only at H); refine call_ hF (spec_l02Four.con E hE hy) f_ f_ ?_; (try (conv => cbv)))
    | ((with_reducible show Hd.call F 138 _ _ _); rw [bind_iff] at H; obtain ⟨y, hy, H⟩ := H; (try dsimp only at H); refine call_ hF (spec_SumOf.con E hE hy) f_ f_ ?_; (try (conv => cbv)))
    | ((with_reducible first | refine end_ ⟨[2, 3], [], [], []⟩ 28 hQ (by cbv) ?_ | refine end_ ⟨[2, 3], [], [], []⟩ 28 hQn (by cbv) ?_); (with_reducible have hS := Option.some.inj H); clear hS; cases H; exact f_)
    | contradiction
theorem spec_l01Var.l0_s {k : Nat} {x0 : Int} {x3 : List Int} {r : _} (h : spec_l01Var.l0 k x0 x3 = some r) : ∃ m, k = m + 1 ∧ spec_l01Var.l0 (m + 1) x0 x3 = some r := by
  cases k with
  | zero => simp [spec_l01Var.l0] at h
  | succ m => exact ⟨m, rfl, h⟩
set_option maxRecDepth 100000 in
set_option maxHeartbeats 4000000 in
theorem spec_l01Var.con (E : En) (hE : E = E0) {k : Nat} {a0 : Int} {r : ByteArray} (H : spec_l01Var.f k a0 = some (r)) :
    Con Tryz.prog TBX 136 [.c (.int .i64 a0)] [] (.c (.str r)) [] [] := by
  refine con_of Tryz.func136 rfl (by kernel_rfl) tabOk [] (Nat.le_of_ble_eq_true rfl) (fun F hF Q hQ hQn => ?_)
  simp only [spec_l01Var.f] at H
  (conv => cbv)
  repeat' first
    | replace H := s_ H
    | (rw [itn_iff] at H; obtain ⟨hc, H⟩ := H)
    | (rw [itn2_iff] at H; obtain ⟨hc, H⟩ := H)
    | ((with_reducible refine br_ hF (fun hb => ?_) (fun hb => ?_)) <;> ((try simp only [hF, hE] at hb); (try simp only [hs, vs] at hb); first | rw [if_pos hb] at H | rw [if_neg hb] at H | rw [if_nn hb] at H | replace H := i_ hb H | (simp only [hb, not_t, b_f, not_true_eq_false, not_false_eq_true, Bool.not_true, Bool.not_false, Bool.false_eq_true, if_true, if_false] at H) | skip) <;> (try (conv => cbv)))
    | (refine w_ hF ?_; (try (conv => cbv)))
    | ((with_reducible refine loop_ hF (fun n t => n ≤ k ∧ ∃ (x0 : Int) (x3 : List Int), t = At 22 [(0, .c (.int .i64 x0)), (3, .own 20003)] [(20003, .row false 5 [.int .u8] (E.eI .u8 x3))] ∧ spec_l01Var.l0 n x0 x3 = some (r)) _ (head_ ⟨[0, 3], [], [(3, 5)], []⟩ ⟨by omega, _, _, rfl, H⟩ (by cbv) f_ f_) (fun n0 t ht Q0 hN0 hX0 => ?_)); obtain ⟨hle0, x0, x3, rfl, H⟩ := ht; obtain ⟨m, hm, H⟩ := spec_l01Var.l0_s H; simp only [spec_l01Var.l0] at H; (try (conv => cbv)))
    | ((with_reducible refine hN0 _ ⟨_, ?lt, head_ ⟨[0, 3], [], [(3, 5)], []⟩ ⟨by omega, _, _, rfl, H⟩ (by cbv) f_ f_⟩); (case lt => omega))
    | ((with_reducible refine hX0 _ _ ne_ret ?_); (try (conv => cbv)))
    | ((with_reducible refine hX0 _ _ (ne_exit _) ?_); (try (conv => cbv)))
    | ((with_reducible first | refine end_ ⟨[2], [], [], []⟩ 22 hQ (by cbv) ?_ | refine end_ ⟨[2], [], [], []⟩ 22 hQn (by cbv) ?_); (with_reducible have hS := Option.some.inj H); clear hS; cases H; exact f_)
    | contradiction
theorem spec_ReadVar.l0_s {k : Nat} {x0 : ByteArray} {x1 : Int} {x7 : Int} {x8 : Int} {x9 : Int} {r : _} (h : spec_ReadVar.l0 k x0 x1 x7 x8 x9 = some r) : ∃ m, k = m + 1 ∧ spec_ReadVar.l0 (m + 1) x0 x1 x7 x8 x9 = some r := by
  cases k with
  | zero => simp [spec_ReadVar.l0] at h
  | succ m => exact ⟨m, rfl, h⟩
theorem spec_ReadVar.j1_s {k : Nat} {x0 : ByteArray} {x1 : Int} {x7 : Int} {x8 : Int} {x9 : Int} {x25 : Bool} {r : _} (h : spec_ReadVar.j1 k x0 x1 x7 x8 x9 x25 = some r) : ∃ m, k = m + 1 ∧ spec_ReadVar.j1 (m + 1) x0 x1 x7 x8 x9 x25 = some r := by
  cases k with
  | zero => simp [spec_ReadVar.j1] at h
  | succ m => exact ⟨m, rfl, h⟩
theorem spec_ReadVar.j1_i {k : Nat} {x0 : ByteArray} {x1 : Int} {x7 : Int} {x8 : Int} {x9 : Int} {x25 : Bool} {r : _} : (spec_ReadVar.j1 k x0 x1 x7 x8 x9 x25 = some r) = (∃ m, k = m + 1 ∧ spec_ReadVar.j1 (m + 1) x0 x1 x7 x8 x9 x25 = some r) := propext ⟨spec_ReadVar.j1_s, fun ⟨m, h, h2⟩ => by rw [h]; exact h2⟩
set_option maxRecDepth 100000 in
set_option maxHeartbeats 4000000 in
theorem spec_ReadVar.con (E : En) (hE : E = E0) {k : Nat} {a0 : ByteArray} {a1 : Int} {r1 : Int} {r2 : Int} {r3 : Bool} (H : spec_ReadVar.f k a0 a1 = some (r1, r2, r3)) :
    Con Tryz.prog TBX 130 [.c (.str a0), .c (.int .i64 a1)] [] (.tup [.c (.int .i64 r1), .c (.int .i64 r2), .c (.bool r3)]) [] [] := by
  refine con_of Tryz.func130 rfl (by kernel_rfl) tabOk [] (Nat.le_of_ble_eq_true rfl) (fun F hF Q hQ hQn => ?_)
  simp only [spec_ReadVar.f] at H
  (conv => cbv)
  repeat' first
    | (rw [spec_ReadVar.j1_i] at H; obtain ⟨m, hm, H⟩ := H; simp only [spec_ReadVar.j1] at H; (try simp only [decide_eq_true_eq, Bool.false_eq_true, if_false, if_true] at H))
    | replace H := s_ H
    | (rw [itn_iff] at H; obtain ⟨hc, H⟩ := H)
    | (rw [itn2_iff] at H; obtain ⟨hc, H⟩ := H)
    | ((with_reducible refine br_ hF (fun hb => ?_) (fun hb => ?_)) <;> ((try simp only [hF, hE] at hb); (try simp only [hs, vs] at hb); first | rw [if_pos hb] at H | rw [if_neg hb] at H | rw [if_nn hb] at H | replace H := i_ hb H | (simp only [hb, not_t, b_f, not_true_eq_false, not_false_eq_true, Bool.not_true, Bool.not_false, Bool.false_eq_true, if_true, if_false] at H) | skip) <;> (try (conv => cbv)))
    | (refine w_ hF ?_; (try (conv => cbv)))
    | ((with_reducible show Hd.call F 131 _ _ _); rw [bind_iff] at H; obtain ⟨y, hy, H⟩ := H; (try dsimp only at H); refine call_ hF (spec_l01In.con E hE hy) f_ f_ ?_; (try (conv => cbv)))
    | ((with_reducible show Hd.call F 136 _ _ _); rw [bind_iff] at H; obtain ⟨y, hy, H⟩ := H; (try dsimp only at H); refine call_ hF (spec_l01Var.con E hE hy) f_ f_ ?_; (try (conv => cbv)))
    | ((with_reducible refine loop_ hF (fun n t => n ≤ k ∧ ∃ (x0 : ByteArray) (x1 : Int) (x7 : Int) (x8 : Int) (x9 : Int), t = At 58 [(0, .c (.str x0)), (1, .c (.int .i64 x1)), (7, .c (.int .i64 x7)), (8, .c (.int .i64 x8)), (9, .c (.int .i64 x9))] [] ∧ spec_ReadVar.l0 n x0 x1 x7 x8 x9 = some (r1, r2, r3)) _ (head_ ⟨[0, 1, 7, 8, 9], [], [], []⟩ ⟨by omega, _, _, _, _, _, rfl, H⟩ (by cbv) f_ f_) (fun n0 t ht Q0 hN0 hX0 => ?_)); obtain ⟨hle0, x0, x1, x7, x8, x9, rfl, H⟩ := ht; obtain ⟨m, hm, H⟩ := spec_ReadVar.l0_s H; simp only [spec_ReadVar.l0] at H; (try (conv => cbv)))
    | ((with_reducible refine hN0 _ ⟨_, ?lt, head_ ⟨[0, 1, 7, 8, 9], [], [], []⟩ ⟨by omega, _, _, _, _, _, rfl, H⟩ (by cbv) f_ f_⟩); (case lt => omega))
    | ((with_reducible refine hX0 _ _ ne_ret ?_); (try (conv => cbv)))
    | ((with_reducible refine hX0 _ _ (ne_exit _) ?_); (try (conv => cbv)))
    | ((with_reducible first | refine end_ ⟨[4, 5, 6], [], [], []⟩ 58 hQ (by cbv) ?_ | refine end_ ⟨[4, 5, 6], [], [], []⟩ 58 hQn (by cbv) ?_); (with_reducible have hS := Option.some.inj H); clear hS; cases H; exact f_)
    | contradiction
set_option maxRecDepth 100000 in
set_option maxHeartbeats 4000000 in
theorem spec_l05Var.con (E : En) (hE : E = E0) {k : Nat} {s0_0 : ByteArray} {s0_1 : Int} {s0_2 : Bool} {r1 : Int} {r2 : ByteArray} {r3 : Int} {r4 : Bool} (H : spec_l05Var.f k s0_0 s0_1 s0_2 = some (r1, r2, r3, r4)) :
    Con Tryz.prog TBX 133 [.ptr 10000 0] [.box [.c (.str s0_0), .c (.int .i64 s0_1), .c (.bool s0_2)]] (.c (.int .i64 r1)) [] [.box [.c (.str r2), .c (.int .i64 r3), .c (.bool r4)]] := by
  refine con_of Tryz.func133 rfl (by kernel_rfl) tabOk [] (Nat.le_of_ble_eq_true rfl) (fun F hF Q hQ hQn => ?_)
  simp only [spec_l05Var.f] at H
  (conv => cbv)
  repeat' first
    | replace H := s_ H
    | (rw [itn_iff] at H; obtain ⟨hc, H⟩ := H)
    | (rw [itn2_iff] at H; obtain ⟨hc, H⟩ := H)
    | ((with_reducible refine br_ hF (fun hb => ?_) (fun hb => ?_)) <;> ((try simp only [hF, hE] at hb); (try simp only [hs, vs] at hb); first | rw [if_pos hb] at H | rw [if_neg hb] at H | rw [if_nn hb] at H | replace H := i_ hb H | (simp only [hb, not_t, b_f, not_true_eq_false, not_false_eq_true, Bool.not_true, Bool.not_false, Bool.false_eq_true, if_true, if_false] at H) | skip) <;> (try (conv => cbv)))
    | (refine w_ hF ?_; (try (conv => cbv)))
    | ((with_reducible show Hd.call F 130 _ _ _); rw [bind_iff] at H; obtain ⟨⟨y1, y2, y3⟩, hy, H⟩ := H; (try dsimp only at H); refine call_ hF (spec_ReadVar.con E hE hy) f_ f_ ?_; (try (conv => cbv)))
    | ((with_reducible first | refine end_ ⟨[2], [], [], []⟩ 35 hQ (by cbv) ?_ | refine end_ ⟨[2], [], [], []⟩ 35 hQn (by cbv) ?_); (with_reducible have hS := Option.some.inj H); clear hS; cases H; exact f_)
    | contradiction
theorem spec_l07Rise.l0_s {k : Nat} {x0 : List Int} {x1 : Int} {x2 : Int} {x7 : Int} {r : _} (h : spec_l07Rise.l0 k x0 x1 x2 x7 = some r) : ∃ m, k = m + 1 ∧ spec_l07Rise.l0 (m + 1) x0 x1 x2 x7 = some r := by
  cases k with
  | zero => simp [spec_l07Rise.l0] at h
  | succ m => exact ⟨m, rfl, h⟩
set_option maxRecDepth 100000 in
set_option maxHeartbeats 4000000 in
theorem spec_l07Rise.con (E : En) (hE : E = E0) {k : Nat} {l0 : List Int} {a1 : Int} {a2 : Int} {r : Bool} (H : spec_l07Rise.f k l0 a1 a2 = some (r)) :
    Con Tryz.prog TBX 219 [.c (.sl [.int .i64] (E.eI .i64 l0)), .c (.int .i64 a1), .c (.int .i64 a2)] [] (.c (.bool r)) [] [] := by
  refine con_of Tryz.func219 rfl (by kernel_rfl) tabOk [] (Nat.le_of_ble_eq_true rfl) (fun F hF Q hQ hQn => ?_)
  simp only [spec_l07Rise.f] at H
  (conv => cbv)
  repeat' first
    | replace H := s_ H
    | (rw [itn_iff] at H; obtain ⟨hc, H⟩ := H)
    | (rw [itn2_iff] at H; obtain ⟨hc, H⟩ := H)
    | ((with_reducible refine br_ hF (fun hb => ?_) (fun hb => ?_)) <;> ((try simp only [hF, hE] at hb); (try simp only [hs, vs] at hb); first | rw [if_pos hb] at H | rw [if_neg hb] at H | rw [if_nn hb] at H | replace H := i_ hb H | (simp only [hb, not_t, b_f, not_true_eq_false, not_false_eq_true, Bool.not_true, Bool.not_false, Bool.false_eq_true, if_true, if_false] at H) | skip) <;> (try (conv => cbv)))
    | (refine w_ hF ?_; (try (conv => cbv)))
    | ((with_reducible show Hd.call F 131 _ _ _); rw [bind_iff] at H; obtain ⟨y, hy, H⟩ := H; (try dsimp only at H); refine call_ hF (spec_l01In.con E hE hy) f_ f_ ?_; (try (conv => cbv)))
    | ((with_reducible refine loop_ hF (fun n t => n ≤ k ∧ ∃ (x0 : List Int) (x1 : Int) (x2 : Int) (x7 : Int), t = At 38 [(0, .c (.sl [.int .i64] (E.eI .i64 x0))), (1, .c (.int .i64 x1)), (2, .c (.int .i64 x2)), (7, .c (.int .i64 x7))] [] ∧ spec_l07Rise.l0 n x0 x1 x2 x7 = some (r)) _ (head_ ⟨[0, 1, 2, 7], [], [], []⟩ ⟨by omega, _, _, _, _, rfl, H⟩ (by cbv) f_ f_) (fun n0 t ht Q0 hN0 hX0 => ?_)); obtain ⟨hle0, x0, x1, x2, x7, rfl, H⟩ := ht; obtain ⟨m, hm, H⟩ := spec_l07Rise.l0_s H; simp only [spec_l07Rise.l0] at H; (try (conv => cbv)))
    | ((with_reducible refine hN0 _ ⟨_, ?lt, head_ ⟨[0, 1, 2, 7], [], [], []⟩ ⟨by omega, _, _, _, _, rfl, H⟩ (by cbv) f_ f_⟩); (case lt => omega))
    | ((with_reducible refine hX0 _ _ ne_ret ?_); (try (conv => cbv)))
    | ((with_reducible refine hX0 _ _ (ne_exit _) ?_); (try (conv => cbv)))
    | ((with_reducible first | refine end_ ⟨[6], [], [], []⟩ 38 hQ (by cbv) ?_ | refine end_ ⟨[6], [], [], []⟩ 38 hQn (by cbv) ?_); (with_reducible have hS := Option.some.inj H); clear hS; cases H; exact f_)
    | contradiction
set_option maxRecDepth 100000 in
set_option maxHeartbeats 4000000 in
theorem spec_ConfOk.con (E : En) (hE : E = E0) {k : Nat} {l0 : List Int} {r : Bool} (H : spec_ConfOk.f k l0 = some (r)) :
    Con Tryz.prog TBX 220 [.c (.sl [.int .i64] (E.eI .i64 l0))] [] (.c (.bool r)) [] [] := by
  refine con_of Tryz.func220 rfl (by kernel_rfl) tabOk [] (Nat.le_of_ble_eq_true rfl) (fun F hF Q hQ hQn => ?_)
  simp only [spec_ConfOk.f] at H
  (conv => cbv)
  repeat' first
    | replace H := s_ H
    | (rw [itn_iff] at H; obtain ⟨hc, H⟩ := H)
    | (rw [itn2_iff] at H; obtain ⟨hc, H⟩ := H)
    | ((with_reducible refine br_ hF (fun hb => ?_) (fun hb => ?_)) <;> ((try simp only [hF, hE] at hb); (try simp only [hs, vs] at hb); first | rw [if_pos hb] at H | rw [if_neg hb] at H | rw [if_nn hb] at H | replace H := i_ hb H | (simp only [hb, not_t, b_f, not_true_eq_false, not_false_eq_true, Bool.not_true, Bool.not_false, Bool.false_eq_true, if_true, if_false] at H) | skip) <;> (try (conv => cbv)))
    | (refine w_ hF ?_; (try (conv => cbv)))
    | ((with_reducible show Hd.call F 131 _ _ _); rw [bind_iff] at H; obtain ⟨y, hy, H⟩ := H; (try dsimp only at H); refine call_ hF (spec_l01In.con E hE hy) f_ f_ ?_; (try (conv => cbv)))
    | ((with_reducible show Hd.call F 219 _ _ _); rw [bind_iff] at H; obtain ⟨y, hy, H⟩ := H; (try dsimp only at H); refine call_ hF (spec_l07Rise.con E hE hy) f_ f_ ?_; (try (conv => cbv)))
    | ((with_reducible first | refine end_ ⟨[2], [], [], []⟩ 10 hQ (by cbv) ?_ | refine end_ ⟨[2], [], [], []⟩ 10 hQn (by cbv) ?_); (with_reducible have hS := Option.some.inj H); clear hS; cases H; exact f_)
    | contradiction
set_option maxRecDepth 100000 in
set_option maxHeartbeats 4000000 in
theorem spec_ManifestOk.con (E : En) (hE : E = E0) {k : Nat} {l0_0 : List Int} {a0_1 : Int} {a0_2 : Int} {a0_3 : Int} {l0_4 : List Int} {r : Bool} (H : spec_ManifestOk.f k l0_0 a0_1 a0_2 a0_3 l0_4 = some (r)) :
    Con Tryz.prog TBX 189 [.agg [.c (.sl [.int .i64] (E.eI .i64 l0_0)), .c (.int .i64 a0_1), .c (.int .i64 a0_2), .c (.int .i64 a0_3), .c (.sl [.int .i64] (E.eI .i64 l0_4))]] [] (.c (.bool r)) [] [] := by
  refine con_of Tryz.func189 rfl (by kernel_rfl) tabOk [] (Nat.le_of_ble_eq_true rfl) (fun F hF Q hQ hQn => ?_)
  simp only [spec_ManifestOk.f] at H
  (conv => cbv)
  repeat' first
    | replace H := s_ H
    | (rw [itn_iff] at H; obtain ⟨hc, H⟩ := H)
    | (rw [itn2_iff] at H; obtain ⟨hc, H⟩ := H)
    | ((with_reducible refine br_ hF (fun hb => ?_) (fun hb => ?_)) <;> ((try simp only [hF, hE] at hb); (try simp only [hs, vs] at hb); first | rw [if_pos hb] at H | rw [if_neg hb] at H | rw [if_nn hb] at H | replace H := i_ hb H | (simp only [hb, not_t, b_f, not_true_eq_false, not_false_eq_true, Bool.not_true, Bool.not_false, Bool.false_eq_true, if_true, if_false] at H) | skip) <;> (try (conv => cbv)))
    | (refine w_ hF ?_; (try (conv => cbv)))
    | ((with_reducible show Hd.call F 131 _ _ _); rw [bind_iff] at H; obtain ⟨y, hy, H⟩ := H; (try dsimp only at H); refine call_ hF (spec_l01In.con E hE hy) f_ f_ ?_; (try (conv => cbv)))
    | ((with_reducible show Hd.call F 219 _ _ _); rw [bind_iff] at H; obtain ⟨y, hy, H⟩ := H; (try dsimp only at H); refine call_ hF (spec_l07Rise.con E hE hy) f_ f_ ?_; (try (conv => cbv)))
    | ((with_reducible show Hd.call F 220 _ _ _); rw [bind_iff] at H; obtain ⟨y, hy, H⟩ := H; (try dsimp only at H); refine call_ hF (spec_ConfOk.con E hE hy) f_ f_ ?_; (try (conv => cbv)))
    | ((with_reducible first | refine end_ ⟨[2], [], [], []⟩ 35 hQ (by cbv) ?_ | refine end_ ⟨[2], [], [], []⟩ 35 hQn (by cbv) ?_); (with_reducible have hS := Option.some.inj H); clear hS; cases H; exact f_)
    | contradiction
set_option maxRecDepth 100000 in
set_option maxHeartbeats 4000000 in
theorem spec_Sealed.con (E : En) (hE : E = E0) {k : Nat} {a0 : ByteArray} {r1 : ByteArray} {r2 : Bool} (H : spec_Sealed.f k a0 = some (r1, r2)) :
    Con Tryz.prog TBX 190 [.c (.str a0)] [] (.tup [.c (.str r1), .c (.bool r2)]) [] [] := by
  refine con_of Tryz.func190 rfl (by kernel_rfl) tabOk [] (Nat.le_of_ble_eq_true rfl) (fun F hF Q hQ hQn => ?_)
  simp only [spec_Sealed.f] at H
  (conv => cbv)
  repeat' first
    | replace H := s_ H
    | (rw [itn_iff] at H; obtain ⟨hc, H⟩ := H)
    | (rw [itn2_iff] at H; obtain ⟨hc, H⟩ := H)
    | ((with_reducible refine br_ hF (fun hb => ?_) (fun hb => ?_)) <;> ((try simp only [hF, hE] at hb); (try simp only [hs, vs] at hb); first | rw [if_pos hb] at H | rw [if_neg hb] at H | rw [if_nn hb] at H | replace H := i_ hb H | (simp only [hb, not_t, b_f, not_true_eq_false, not_false_eq_true, Bool.not_true, Bool.not_false, Bool.false_eq_true, if_true, if_false] at H) | skip) <;> (try (conv => cbv)))
    | (refine w_ hF ?_; (try (conv => cbv)))
    | ((with_reducible show Hd.call F 137 _ _ _); rw [bind_iff] at H; obtain ⟨y, hy, H⟩ := H; (try dsimp only at H); refine call_ hF (spec_l02Four.con E hE hy) f_ f_ ?_; (try (conv => cbv)))
    | ((with_reducible show Hd.call F 138 _ _ _); rw [bind_iff] at H; obtain ⟨y, hy, H⟩ := H; (try dsimp only at H); refine call_ hF (spec_SumOf.con E hE hy) f_ f_ ?_; (try (conv => cbv)))
    | ((with_reducible first | refine end_ ⟨[2, 3], [], [], []⟩ 12 hQ (by cbv) ?_ | refine end_ ⟨[2, 3], [], [], []⟩ 12 hQn (by cbv) ?_); (with_reducible have hS := Option.some.inj H); clear hS; cases H; exact f_)
    | contradiction
end Go.Ev

