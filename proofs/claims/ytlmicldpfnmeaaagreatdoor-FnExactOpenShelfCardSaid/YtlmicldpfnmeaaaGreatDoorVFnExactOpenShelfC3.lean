/- Contracts of the Go functions that this law reaches: what each call returns, by its plain function. No conditions but those that each statement names. By this repo's programs; comments are taken out. -/
import Derived.Test.YtlmicldpfnmeaaaGreatDoorVFnExactOpenShelfD
import Derived.Test.YtlmicldpfnmeaaaGreatDoorVFnExactOpenShelfC0
import Derived.Test.YtlmicldpfnmeaaaGreatDoorVFnExactOpenShelfC1
import Derived.Test.YtlmicldpfnmeaaaGreatDoorVFnExactOpenShelfC2
set_option linter.all false
namespace Go.Ev
open Go.RowKit Go.Proofs Go.Proofs.YtlmicldpfnmeaaaGreatDoorW.PrintWords Go.Proofs.YtlmicldpfnmeaaaGreatDoorW.PrintLast Go.Proofs.YtlmicldpfnmeaaaGreatDoorW.PrintMore
theorem spec_Unframe.l0_s {k : Nat} {x0 : ByteArray} {x4 : List ByteArray} {x5 : Int} {r : _} (h : spec_Unframe.l0 k x0 x4 x5 = some r) : ∃ m, k = m + 1 ∧ spec_Unframe.l0 (m + 1) x0 x4 x5 = some r := by
  cases k with
  | zero => simp [spec_Unframe.l0] at h
  | succ m => exact ⟨m, rfl, h⟩
theorem spec_Unframe.j1_s {k : Nat} {x0 : ByteArray} {x4 : List ByteArray} {x5 : Int} {x6 : Int} {x7 : Int} {x38 : Bool} {r : _} (h : spec_Unframe.j1 k x0 x4 x5 x6 x7 x38 = some r) : ∃ m, k = m + 1 ∧ spec_Unframe.j1 (m + 1) x0 x4 x5 x6 x7 x38 = some r := by
  cases k with
  | zero => simp [spec_Unframe.j1] at h
  | succ m => exact ⟨m, rfl, h⟩
theorem spec_Unframe.j1_i {k : Nat} {x0 : ByteArray} {x4 : List ByteArray} {x5 : Int} {x6 : Int} {x7 : Int} {x38 : Bool} {r : _} : (spec_Unframe.j1 k x0 x4 x5 x6 x7 x38 = some r) = (∃ m, k = m + 1 ∧ spec_Unframe.j1 (m + 1) x0 x4 x5 x6 x7 x38 = some r) := propext ⟨spec_Unframe.j1_s, fun ⟨m, h, h2⟩ => by rw [h]; exact h2⟩
set_option maxRecDepth 100000 in
set_option maxHeartbeats 4000000 in
theorem spec_Unframe.con (E : En) (hE : E = E0) {k : Nat} {a0 : ByteArray} {r1 : List ByteArray} {r2 : Int} (H : spec_Unframe.f k a0 = some (r1, r2)) :
    Con Tryz.prog TBX 59 [.c (.str a0)] [] (.tup [.own 0, .c (.int .i64 r2)]) [.row false 9 [.str] (E.eS r1)] [] := by
  refine con_of Tryz.func59 rfl (by kernel_rfl) tabOk [20002] (Nat.le_of_ble_eq_true rfl) (fun F hF Q hQ hQn => ?_)
  simp only [spec_Unframe.f] at H
  (conv => cbv)
  repeat' first
    | (rw [spec_Unframe.j1_i] at H; obtain ⟨m, hm, H⟩ := H; simp only [spec_Unframe.j1] at H; (try simp only [decide_eq_true_eq, Bool.false_eq_true, if_false, if_true] at H))
    | replace H := s_ H
    | (rw [itn_iff] at H; obtain ⟨hc, H⟩ := H)
    | (rw [itn2_iff] at H; obtain ⟨hc, H⟩ := H)
    | ((with_reducible refine br_ hF (fun hb => ?_) (fun hb => ?_)) <;> ((try simp only [hF, hE] at hb); (try simp only [hs, vs] at hb); first | rw [if_pos hb] at H | rw [if_neg hb] at H | rw [if_nn hb] at H | replace H := i_ hb H | (simp only [hb, not_t, b_f, not_true_eq_false, not_false_eq_true, Bool.not_true, Bool.not_false, Bool.false_eq_true, if_true, if_false] at H) | skip) <;> (try (conv => cbv)))
    | (refine w_ hF ?_; (try (conv => cbv)))
    | ((with_reducible show Hd.call F 63 _ _ _); rw [bind_iff] at H; obtain ⟨⟨y1, y2⟩, hy, H⟩ := H; (try dsimp only at H); refine call_ hF (spec_Frame.con E hE hy) f_ f_ ?_; (try (conv => cbv)))
    | ((with_reducible show Hd.call F 130 _ _ _); rw [bind_iff] at H; obtain ⟨⟨y1, y2, y3⟩, hy, H⟩ := H; (try dsimp only at H); refine call_ hF (spec_ReadVar.con E hE hy) f_ f_ ?_; (try (conv => cbv)))
    | ((with_reducible refine loop_ hF (fun n t => n ≤ k ∧ ∃ (x0 : ByteArray) (x4 : List ByteArray) (x5 : Int), t = At 79 [(0, .c (.str x0)), (4, .own 20004), (5, .c (.int .i64 x5))] [(20004, .row false 9 [.str] (E.eS x4))] ∧ spec_Unframe.l0 n x0 x4 x5 = some (r1, r2)) _ (head_ ⟨[0, 4, 5], [], [(4, 9)], []⟩ ⟨by omega, _, _, _, rfl, H⟩ (by cbv) f_ f_) (fun n0 t ht Q0 hN0 hX0 => ?_)); obtain ⟨hle0, x0, x4, x5, rfl, H⟩ := ht; obtain ⟨m, hm, H⟩ := spec_Unframe.l0_s H; simp only [spec_Unframe.l0] at H; (try (conv => cbv)))
    | ((with_reducible refine hN0 _ ⟨_, ?lt, head_ ⟨[0, 4, 5], [], [(4, 9)], []⟩ ⟨by omega, _, _, _, rfl, H⟩ (by cbv) f_ f_⟩); (case lt => omega))
    | ((with_reducible refine hX0 _ _ ne_ret ?_); (try (conv => cbv)))
    | ((with_reducible refine hX0 _ _ (ne_exit _) ?_); (try (conv => cbv)))
    | ((with_reducible first | refine end_ ⟨[2, 3], [], [(2, 9)], []⟩ 79 hQ (by cbv) ?_ | refine end_ ⟨[2, 3], [], [(2, 9)], []⟩ 79 hQn (by cbv) ?_); (with_reducible have hS := Option.some.inj H); clear hS; cases H; exact f_)
    | contradiction
set_option maxRecDepth 100000 in
set_option maxHeartbeats 4000000 in
theorem spec_l05Take.con (E : En) (hE : E = E0) {s0_0 : ByteArray} {s0_1 : Int} {s0_2 : Bool} {a1 : Int} {r1 : ByteArray} {r2 : ByteArray} {r3 : Int} {r4 : Bool} (H : spec_l05Take.f s0_0 s0_1 s0_2 a1 = some (r1, r2, r3, r4)) :
    Con Tryz.prog TBX 135 [.ptr 10000 0, .c (.int .i64 a1)] [.box [.c (.str s0_0), .c (.int .i64 s0_1), .c (.bool s0_2)]] (.c (.str r1)) [] [.box [.c (.str r2), .c (.int .i64 r3), .c (.bool r4)]] := by
  refine con_of Tryz.func135 rfl (by kernel_rfl) tabOk [] (Nat.le_of_ble_eq_true rfl) (fun F hF Q hQ hQn => ?_)
  simp only [spec_l05Take.f] at H
  (conv => cbv)
  repeat' first
    | replace H := s_ H
    | (rw [itn_iff] at H; obtain ⟨hc, H⟩ := H)
    | (rw [itn2_iff] at H; obtain ⟨hc, H⟩ := H)
    | ((with_reducible refine br_ hF (fun hb => ?_) (fun hb => ?_)) <;> ((try simp only [hF, hE] at hb); (try simp only [hs, vs] at hb); first | rw [if_pos hb] at H | rw [if_neg hb] at H | rw [if_nn hb] at H | replace H := i_ hb H | (simp only [hb, not_t, b_f, not_true_eq_false, not_false_eq_true, Bool.not_true, Bool.not_false, Bool.false_eq_true, if_true, if_false] at H) | skip) <;> (try (conv => cbv)))
    | (refine w_ hF ?_; (try (conv => cbv)))
    | ((with_reducible first | refine end_ ⟨[4], [], [], []⟩ 50 hQ (by cbv) ?_ | refine end_ ⟨[4], [], [], []⟩ 50 hQn (by cbv) ?_); (with_reducible have hS := Option.some.inj H); clear hS; cases H; exact f_)
    | contradiction
set_option maxRecDepth 100000 in
set_option maxHeartbeats 4000000 in
theorem spec_l05ReadShort.con (E : En) (hE : E = E0) {k : Nat} {s0_0 : ByteArray} {s0_1 : Int} {s0_2 : Bool} {r1 : ByteArray} {r2 : ByteArray} {r3 : Int} {r4 : Bool} (H : spec_l05ReadShort.f k s0_0 s0_1 s0_2 = some (r1, r2, r3, r4)) :
    Con Tryz.prog TBX 134 [.ptr 10000 0] [.box [.c (.str s0_0), .c (.int .i64 s0_1), .c (.bool s0_2)]] (.c (.str r1)) [] [.box [.c (.str r2), .c (.int .i64 r3), .c (.bool r4)]] := by
  refine con_of Tryz.func134 rfl (by kernel_rfl) tabOk [] (Nat.le_of_ble_eq_true rfl) (fun F hF Q hQ hQn => ?_)
  simp only [spec_l05ReadShort.f] at H
  (conv => cbv)
  repeat' first
    | replace H := s_ H
    | (rw [itn_iff] at H; obtain ⟨hc, H⟩ := H)
    | (rw [itn2_iff] at H; obtain ⟨hc, H⟩ := H)
    | ((with_reducible refine br_ hF (fun hb => ?_) (fun hb => ?_)) <;> ((try simp only [hF, hE] at hb); (try simp only [hs, vs] at hb); first | rw [if_pos hb] at H | rw [if_neg hb] at H | rw [if_nn hb] at H | replace H := i_ hb H | (simp only [hb, not_t, b_f, not_true_eq_false, not_false_eq_true, Bool.not_true, Bool.not_false, Bool.false_eq_true, if_true, if_false] at H) | skip) <;> (try (conv => cbv)))
    | (refine w_ hF ?_; (try (conv => cbv)))
    | ((with_reducible show Hd.call F 133 _ _ _); rw [bind_iff] at H; obtain ⟨⟨y1, y2, y3, y4⟩, hy, H⟩ := H; (try dsimp only at H); refine call_ hF (spec_l05Var.con E hE hy) f_ f_ ?_; (try (conv => cbv)))
    | ((with_reducible show Hd.call F 135 _ _ _); rw [bind_iff] at H; obtain ⟨⟨y1, y2, y3, y4⟩, hy, H⟩ := H; (try dsimp only at H); refine call_ hF (spec_l05Take.con E hE hy) f_ f_ ?_; (try (conv => cbv)))
    | ((with_reducible first | refine end_ ⟨[2], [], [], []⟩ 9 hQ (by cbv) ?_ | refine end_ ⟨[2], [], [], []⟩ 9 hQn (by cbv) ?_); (with_reducible have hS := Option.some.inj H); clear hS; cases H; exact f_)
    | contradiction
set_option maxRecDepth 100000 in
set_option maxHeartbeats 4000000 in
theorem spec_l05Key.con (E : En) (hE : E = E0) {a0 : ByteArray} {r : Bool} (H : spec_l05Key.f a0 = some (r)) :
    Con Tryz.prog TBX 177 [.c (.str a0)] [] (.c (.bool r)) [] [] := by
  refine con_of Tryz.func177 rfl (by kernel_rfl) tabOk [] (Nat.le_of_ble_eq_true rfl) (fun F hF Q hQ hQn => ?_)
  simp only [spec_l05Key.f] at H
  (conv => cbv)
  repeat' first
    | replace H := s_ H
    | (rw [itn_iff] at H; obtain ⟨hc, H⟩ := H)
    | (rw [itn2_iff] at H; obtain ⟨hc, H⟩ := H)
    | ((with_reducible refine br_ hF (fun hb => ?_) (fun hb => ?_)) <;> ((try simp only [hF, hE] at hb); (try simp only [hs, vs] at hb); first | rw [if_pos hb] at H | rw [if_neg hb] at H | rw [if_nn hb] at H | replace H := i_ hb H | (simp only [hb, not_t, b_f, not_true_eq_false, not_false_eq_true, Bool.not_true, Bool.not_false, Bool.false_eq_true, if_true, if_false] at H) | skip) <;> (try (conv => cbv)))
    | (refine w_ hF ?_; (try (conv => cbv)))
    | ((with_reducible show Hd.call F 131 _ _ _); rw [bind_iff] at H; obtain ⟨y, hy, H⟩ := H; (try dsimp only at H); refine call_ hF (spec_l01In.con E hE hy) f_ f_ ?_; (try (conv => cbv)))
    | ((with_reducible first | refine end_ ⟨[2], [], [], []⟩ 6 hQ (by cbv) ?_ | refine end_ ⟨[2], [], [], []⟩ 6 hQn (by cbv) ?_); (with_reducible have hS := Option.some.inj H); clear hS; cases H; exact f_)
    | contradiction
theorem spec_BatchOk.j0_s {k : Nat} {x14 : Bool} {x290000 : Int} {x290001 : List S162} {r : _} (h : spec_BatchOk.j0 k x14 x290000 x290001 = some r) : ∃ m, k = m + 1 ∧ spec_BatchOk.j0 (m + 1) x14 x290000 x290001 = some r := by
  cases k with
  | zero => simp [spec_BatchOk.j0] at h
  | succ m => exact ⟨m, rfl, h⟩
theorem spec_BatchOk.l0_s {k : Nat} {x3 : Int} {x290000 : Int} {x290001 : List S162} {r : _} (h : spec_BatchOk.l0 k x3 x290000 x290001 = some r) : ∃ m, k = m + 1 ∧ spec_BatchOk.l0 (m + 1) x3 x290000 x290001 = some r := by
  cases k with
  | zero => simp [spec_BatchOk.l0] at h
  | succ m => exact ⟨m, rfl, h⟩
theorem spec_BatchOk.j0_i {k : Nat} {x14 : Bool} {x290000 : Int} {x290001 : List S162} {r : _} : (spec_BatchOk.j0 k x14 x290000 x290001 = some r) = (∃ m, k = m + 1 ∧ spec_BatchOk.j0 (m + 1) x14 x290000 x290001 = some r) := propext ⟨spec_BatchOk.j0_s, fun ⟨m, h, h2⟩ => by rw [h]; exact h2⟩
set_option maxRecDepth 100000 in
set_option maxHeartbeats 4000000 in
theorem spec_BatchOk.con (E : En) (hE : E = E0) {k : Nat} {a0_0 : Int} {l0_1 : List S162} {r : Bool} (H : spec_BatchOk.f k a0_0 l0_1 = some (r)) :
    Con Tryz.prog TBX 116 [.agg [.c (.int .i64 a0_0), .c (.sl [.str, .str, .bool] (E.e162 l0_1))]] [] (.c (.bool r)) [] [] := by
  refine con_of Tryz.func116 rfl (by kernel_rfl) tabOk [] (Nat.le_of_ble_eq_true rfl) (fun F hF Q hQ hQn => ?_)
  simp only [spec_BatchOk.f] at H
  (conv => cbv)
  repeat' first
    | (rw [spec_BatchOk.j0_i] at H; obtain ⟨m, hm, H⟩ := H; simp only [spec_BatchOk.j0] at H; (try simp only [decide_eq_true_eq, Bool.false_eq_true, if_false, if_true] at H))
    | replace H := s_ H
    | (rw [itn_iff] at H; obtain ⟨hc, H⟩ := H)
    | (rw [itn2_iff] at H; obtain ⟨hc, H⟩ := H)
    | ((with_reducible refine br_ hF (fun hb => ?_) (fun hb => ?_)) <;> ((try simp only [hF, hE] at hb); (try simp only [hs, vs] at hb); first | rw [if_pos hb] at H | rw [if_neg hb] at H | rw [if_nn hb] at H | replace H := i_ hb H | (simp only [hb, not_t, b_f, not_true_eq_false, not_false_eq_true, Bool.not_true, Bool.not_false, Bool.false_eq_true, if_true, if_false] at H) | skip) <;> (try (conv => cbv)))
    | (refine w_ hF ?_; (try (conv => cbv)))
    | ((with_reducible show Hd.call F 131 _ _ _); rw [bind_iff] at H; obtain ⟨y, hy, H⟩ := H; (try dsimp only at H); refine call_ hF (spec_l01In.con E hE hy) f_ f_ ?_; (try (conv => cbv)))
    | ((with_reducible show Hd.call F 177 _ _ _); rw [bind_iff] at H; obtain ⟨y, hy, H⟩ := H; (try dsimp only at H); refine call_ hF (spec_l05Key.con E hE hy) f_ f_ ?_; (try (conv => cbv)))
    | ((with_reducible refine loop_ hF (fun n t => n ≤ k ∧ ∃ (x3 : Int) (x290000 : Int) (x290001 : List S162), t = At 62 [(1, .ptr 1 0), (3, .c (.int .i64 x3))] [(1, .box [.c (.int .i64 x290000), .c (.sl [.str, .str, .bool] (E.e162 x290001))])] ∧ spec_BatchOk.l0 n x3 x290000 x290001 = some (r)) _ (head_ ⟨[1, 3], [1], [], []⟩ ⟨by omega, _, _, _, rfl, H⟩ (by cbv) f_ f_) (fun n0 t ht Q0 hN0 hX0 => ?_)); obtain ⟨hle0, x3, x290000, x290001, rfl, H⟩ := ht; obtain ⟨m, hm, H⟩ := spec_BatchOk.l0_s H; simp only [spec_BatchOk.l0] at H; (try (conv => cbv)))
    | ((with_reducible refine hN0 _ ⟨_, ?lt, head_ ⟨[1, 3], [1], [], []⟩ ⟨by omega, _, _, _, rfl, H⟩ (by cbv) f_ f_⟩); (case lt => omega))
    | ((with_reducible refine hX0 _ _ ne_ret ?_); (try (conv => cbv)))
    | ((with_reducible refine hX0 _ _ (ne_exit _) ?_); (try (conv => cbv)))
    | ((with_reducible first | refine end_ ⟨[2], [], [], []⟩ 62 hQ (by cbv) ?_ | refine end_ ⟨[2], [], [], []⟩ 62 hQn (by cbv) ?_); (with_reducible have hS := Option.some.inj H); clear hS; cases H; exact f_)
    | contradiction
set_option maxRecDepth 100000 in
set_option maxHeartbeats 4000000 in
theorem spec_l05Short.con (E : En) (hE : E = E0) {k : Nat} {a0 : ByteArray} {r : ByteArray} (H : spec_l05Short.f k a0 = some (r)) :
    Con Tryz.prog TBX 185 [.c (.str a0)] [] (.c (.str r)) [] [] := by
  refine con_of Tryz.func185 rfl (by kernel_rfl) tabOk [] (Nat.le_of_ble_eq_true rfl) (fun F hF Q hQ hQn => ?_)
  simp only [spec_l05Short.f] at H
  (conv => cbv)
  repeat' first
    | replace H := s_ H
    | (rw [itn_iff] at H; obtain ⟨hc, H⟩ := H)
    | (rw [itn2_iff] at H; obtain ⟨hc, H⟩ := H)
    | ((with_reducible refine br_ hF (fun hb => ?_) (fun hb => ?_)) <;> ((try simp only [hF, hE] at hb); (try simp only [hs, vs] at hb); first | rw [if_pos hb] at H | rw [if_neg hb] at H | rw [if_nn hb] at H | replace H := i_ hb H | (simp only [hb, not_t, b_f, not_true_eq_false, not_false_eq_true, Bool.not_true, Bool.not_false, Bool.false_eq_true, if_true, if_false] at H) | skip) <;> (try (conv => cbv)))
    | (refine w_ hF ?_; (try (conv => cbv)))
    | ((with_reducible show Hd.call F 136 _ _ _); rw [bind_iff] at H; obtain ⟨y, hy, H⟩ := H; (try dsimp only at H); refine call_ hF (spec_l01Var.con E hE hy) f_ f_ ?_; (try (conv => cbv)))
    | ((with_reducible first | refine end_ ⟨[2], [], [], []⟩ 8 hQ (by cbv) ?_ | refine end_ ⟨[2], [], [], []⟩ 8 hQn (by cbv) ?_); (with_reducible have hS := Option.some.inj H); clear hS; cases H; exact f_)
    | contradiction
theorem spec_BatchText.l0_s {k : Nat} {x4 : ByteArray} {x5 : Int} {x297000 : Int} {x297001 : List S162} {r : _} (h : spec_BatchText.l0 k x4 x5 x297000 x297001 = some r) : ∃ m, k = m + 1 ∧ spec_BatchText.l0 (m + 1) x4 x5 x297000 x297001 = some r := by
  cases k with
  | zero => simp [spec_BatchText.l0] at h
  | succ m => exact ⟨m, rfl, h⟩
set_option maxRecDepth 100000 in
set_option maxHeartbeats 4000000 in
theorem spec_BatchText.con (E : En) (hE : E = E0) {k : Nat} {a0_0 : Int} {l0_1 : List S162} {r1 : ByteArray} {r2 : Bool} (H : spec_BatchText.f k a0_0 l0_1 = some (r1, r2)) :
    Con Tryz.prog TBX 104 [.agg [.c (.int .i64 a0_0), .c (.sl [.str, .str, .bool] (E.e162 l0_1))]] [] (.tup [.c (.str r1), .c (.bool r2)]) [] [] := by
  refine con_of Tryz.func104 rfl (by kernel_rfl) tabOk [] (Nat.le_of_ble_eq_true rfl) (fun F hF Q hQ hQn => ?_)
  simp only [spec_BatchText.f] at H
  (conv => cbv)
  repeat' first
    | replace H := s_ H
    | (rw [itn_iff] at H; obtain ⟨hc, H⟩ := H)
    | (rw [itn2_iff] at H; obtain ⟨hc, H⟩ := H)
    | ((with_reducible refine br_ hF (fun hb => ?_) (fun hb => ?_)) <;> ((try simp only [hF, hE] at hb); (try simp only [hs, vs] at hb); first | rw [if_pos hb] at H | rw [if_neg hb] at H | rw [if_nn hb] at H | replace H := i_ hb H | (simp only [hb, not_t, b_f, not_true_eq_false, not_false_eq_true, Bool.not_true, Bool.not_false, Bool.false_eq_true, if_true, if_false] at H) | skip) <;> (try (conv => cbv)))
    | (refine w_ hF ?_; (try (conv => cbv)))
    | ((with_reducible show Hd.call F 116 _ _ _); rw [bind_iff] at H; obtain ⟨y, hy, H⟩ := H; (try dsimp only at H); refine call_ hF (spec_BatchOk.con E hE hy) f_ f_ ?_; (try (conv => cbv)))
    | ((with_reducible show Hd.call F 136 _ _ _); rw [bind_iff] at H; obtain ⟨y, hy, H⟩ := H; (try dsimp only at H); refine call_ hF (spec_l01Var.con E hE hy) f_ f_ ?_; (try (conv => cbv)))
    | ((with_reducible show Hd.call F 185 _ _ _); rw [bind_iff] at H; obtain ⟨y, hy, H⟩ := H; (try dsimp only at H); refine call_ hF (spec_l05Short.con E hE hy) f_ f_ ?_; (try (conv => cbv)))
    | ((with_reducible refine loop_ hF (fun n t => n ≤ k ∧ ∃ (x4 : ByteArray) (x5 : Int) (x297000 : Int) (x297001 : List S162), t = At 51 [(1, .ptr 1 0), (4, .c (.str x4)), (5, .c (.int .i64 x5))] [(1, .box [.c (.int .i64 x297000), .c (.sl [.str, .str, .bool] (E.e162 x297001))])] ∧ spec_BatchText.l0 n x4 x5 x297000 x297001 = some (r1, r2)) _ (head_ ⟨[1, 4, 5], [1], [], []⟩ ⟨by omega, _, _, _, _, rfl, H⟩ (by cbv) f_ f_) (fun n0 t ht Q0 hN0 hX0 => ?_)); obtain ⟨hle0, x4, x5, x297000, x297001, rfl, H⟩ := ht; obtain ⟨m, hm, H⟩ := spec_BatchText.l0_s H; simp only [spec_BatchText.l0] at H; (try (conv => cbv)))
    | ((with_reducible refine hN0 _ ⟨_, ?lt, head_ ⟨[1, 4, 5], [1], [], []⟩ ⟨by omega, _, _, _, _, rfl, H⟩ (by cbv) f_ f_⟩); (case lt => omega))
    | ((with_reducible refine hX0 _ _ ne_ret ?_); (try (conv => cbv)))
    | ((with_reducible refine hX0 _ _ (ne_exit _) ?_); (try (conv => cbv)))
    | ((with_reducible first | refine end_ ⟨[2, 3], [], [], []⟩ 51 hQ (by cbv) ?_ | refine end_ ⟨[2, 3], [], [], []⟩ 51 hQn (by cbv) ?_); (with_reducible have hS := Option.some.inj H); clear hS; cases H; exact f_)
    | contradiction
theorem spec_ReadBatch.l0_s {k : Nat} {x0 : ByteArray} {x6 : Int} {x7 : Int} {x319000 : ByteArray} {x319001 : Int} {x319002 : Bool} {x320000 : Int} {x320001 : List S162} {r : _} (h : spec_ReadBatch.l0 k x0 x6 x7 x319000 x319001 x319002 x320000 x320001 = some r) : ∃ m, k = m + 1 ∧ spec_ReadBatch.l0 (m + 1) x0 x6 x7 x319000 x319001 x319002 x320000 x320001 = some r := by
  cases k with
  | zero => simp [spec_ReadBatch.l0] at h
  | succ m => exact ⟨m, rfl, h⟩
theorem spec_ReadBatch.j1_s {k : Nat} {x0 : ByteArray} {x6 : Int} {x7 : Int} {x29 : Bool} {x319000 : ByteArray} {x319001 : Int} {x319002 : Bool} {x320000 : Int} {x320001 : List S162} {r : _} (h : spec_ReadBatch.j1 k x0 x6 x7 x29 x319000 x319001 x319002 x320000 x320001 = some r) : ∃ m, k = m + 1 ∧ spec_ReadBatch.j1 (m + 1) x0 x6 x7 x29 x319000 x319001 x319002 x320000 x320001 = some r := by
  cases k with
  | zero => simp [spec_ReadBatch.j1] at h
  | succ m => exact ⟨m, rfl, h⟩
theorem spec_ReadBatch.j1_i {k : Nat} {x0 : ByteArray} {x6 : Int} {x7 : Int} {x29 : Bool} {x319000 : ByteArray} {x319001 : Int} {x319002 : Bool} {x320000 : Int} {x320001 : List S162} {r : _} : (spec_ReadBatch.j1 k x0 x6 x7 x29 x319000 x319001 x319002 x320000 x320001 = some r) = (∃ m, k = m + 1 ∧ spec_ReadBatch.j1 (m + 1) x0 x6 x7 x29 x319000 x319001 x319002 x320000 x320001 = some r) := propext ⟨spec_ReadBatch.j1_s, fun ⟨m, h, h2⟩ => by rw [h]; exact h2⟩
set_option maxRecDepth 100000 in
set_option maxHeartbeats 4000000 in
theorem spec_ReadBatch.con (E : En) (hE : E = E0) {k : Nat} {a0 : ByteArray} {r1 : Int} {r2 : List S162} {r3 : Bool} (H : spec_ReadBatch.f k a0 = some (r1, r2, r3)) :
    Con Tryz.prog TBX 62 [.c (.str a0)] [] (.tup [.agg [.c (.int .i64 r1), .own 0], .c (.bool r3)]) [.row false 162 [.str, .str, .bool] (E.e162 r2)] [] := by
  refine con_of Tryz.func62 rfl (by kernel_rfl) tabOk [400041] (Nat.le_of_ble_eq_true rfl) (fun F hF Q hQ hQn => ?_)
  simp only [spec_ReadBatch.f] at H
  (conv => cbv)
  repeat' first
    | (rw [spec_ReadBatch.j1_i] at H; obtain ⟨m, hm, H⟩ := H; simp only [spec_ReadBatch.j1] at H; (try simp only [decide_eq_true_eq, Bool.false_eq_true, if_false, if_true] at H))
    | replace H := s_ H
    | (rw [itn_iff] at H; obtain ⟨hc, H⟩ := H)
    | (rw [itn2_iff] at H; obtain ⟨hc, H⟩ := H)
    | ((with_reducible refine br_ hF (fun hb => ?_) (fun hb => ?_)) <;> ((try simp only [hF, hE] at hb); (try simp only [hs, vs] at hb); first | rw [if_pos hb] at H | rw [if_neg hb] at H | rw [if_nn hb] at H | replace H := i_ hb H | (simp only [hb, not_t, b_f, not_true_eq_false, not_false_eq_true, Bool.not_true, Bool.not_false, Bool.false_eq_true, if_true, if_false] at H) | skip) <;> (try (conv => cbv)))
    | (refine w_ hF ?_; (try (conv => cbv)))
    | ((with_reducible show Hd.call F 104 _ _ _); rw [bind_iff] at H; obtain ⟨⟨y1, y2⟩, hy, H⟩ := H; (try dsimp only at H); refine call_ hF (spec_BatchText.con E hE hy) f_ f_ ?_; (try (conv => cbv)))
    | ((with_reducible show Hd.call F 133 _ _ _); rw [bind_iff] at H; obtain ⟨⟨y1, y2, y3, y4⟩, hy, H⟩ := H; (try dsimp only at H); refine call_ hF (spec_l05Var.con E hE hy) f_ f_ ?_; (try (conv => cbv)))
    | ((with_reducible show Hd.call F 134 _ _ _); rw [bind_iff] at H; obtain ⟨⟨y1, y2, y3, y4⟩, hy, H⟩ := H; (try dsimp only at H); refine call_ hF (spec_l05ReadShort.con E hE hy) f_ f_ ?_; (try (conv => cbv)))
    | ((with_reducible show Hd.call F 135 _ _ _); rw [bind_iff] at H; obtain ⟨⟨y1, y2, y3, y4⟩, hy, H⟩ := H; (try dsimp only at H); refine call_ hF (spec_l05Take.con E hE hy) f_ f_ ?_; (try (conv => cbv)))
    | ((with_reducible refine loop_ hF (fun n t => n ≤ k ∧ ∃ (x0 : ByteArray) (x6 : Int) (x7 : Int) (x319000 : ByteArray) (x319001 : Int) (x319002 : Bool) (x320000 : Int) (x320001 : List S162), t = At 69 [(0, .c (.str x0)), (2, .ptr 2 0), (4, .ptr 13 0), (5, .ptr 5 0), (6, .c (.int .i64 x6)), (7, .c (.int .i64 x7)), (13, .ptr 13 0)] [(2, .box [.c (.int .i64 0), .own 400041]), (13, .box [.c (.str x319000), .c (.int .i64 x319001), .c (.bool x319002)]), (5, .box [.c (.int .i64 x320000), .own 400101]), (400041, .row false 162 [.str, .str, .bool] []), (400101, .row false 162 [.str, .str, .bool] (E.e162 x320001))] ∧ spec_ReadBatch.l0 n x0 x6 x7 x319000 x319001 x319002 x320000 x320001 = some (r1, r2, r3)) _ (head_ ⟨[0, 2, 4, 5, 6, 7, 13], [2, 13, 5], [], [(2, 1, 162), (5, 1, 162)]⟩ ⟨by omega, _, _, _, _, _, _, _, _, rfl, H⟩ (by cbv) f_ f_) (fun n0 t ht Q0 hN0 hX0 => ?_)); obtain ⟨hle0, x0, x6, x7, x319000, x319001, x319002, x320000, x320001, rfl, H⟩ := ht; obtain ⟨m, hm, H⟩ := spec_ReadBatch.l0_s H; simp only [spec_ReadBatch.l0] at H; (try (conv => cbv)))
    | ((with_reducible refine hN0 _ ⟨_, ?lt, head_ ⟨[0, 2, 4, 5, 6, 7, 13], [2, 13, 5], [], [(2, 1, 162), (5, 1, 162)]⟩ ⟨by omega, _, _, _, _, _, _, _, _, rfl, H⟩ (by cbv) f_ f_⟩); (case lt => omega))
    | ((with_reducible refine hX0 _ _ ne_ret ?_); (try (conv => cbv)))
    | ((with_reducible refine hX0 _ _ (ne_exit _) ?_); (try (conv => cbv)))
    | ((with_reducible first | refine end_ ⟨[2, 3], [2], [], [(2, 1, 162)]⟩ 69 hQ (by cbv) ?_ | refine end_ ⟨[2, 3], [2], [], [(2, 1, 162)]⟩ 69 hQn (by cbv) ?_); (with_reducible have hS := Option.some.inj H); clear hS; cases H; exact f_)
    | contradiction
end Go.Ev

