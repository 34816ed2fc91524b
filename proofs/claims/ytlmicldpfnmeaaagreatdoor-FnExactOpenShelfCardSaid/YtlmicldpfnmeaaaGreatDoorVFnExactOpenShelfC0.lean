/- Contracts of the Go functions that this law reaches: what each call returns, by its plain function. No conditions but those that each statement names. By this repo's programs; comments are taken out. -/
import Derived.Test.YtlmicldpfnmeaaaGreatDoorVFnExactOpenShelfD
set_option linter.all false
namespace Go.Ev
open Go.RowKit Go.Proofs Go.Proofs.YtlmicldpfnmeaaaGreatDoorW.PrintWords Go.Proofs.YtlmicldpfnmeaaaGreatDoorW.PrintLast Go.Proofs.YtlmicldpfnmeaaaGreatDoorW.PrintMore
set_option maxRecDepth 100000 in
set_option maxHeartbeats 4000000 in
theorem laws_szFile.con (E : En) (hE : E = E0) {a0_0 : ByteArray} {a0_1 : ByteArray} {a1 : Int} {r : Int} (H : laws_szFile.f a0_0 a0_1 a1 = some (r)) :
    Con Tryz.prog TBX 126 [.agg [.c (.str a0_0), .c (.str a0_1)], .c (.int .i64 a1)] [] (.c (.int .i64 r)) [] [] := by
  refine con_of Tryz.func126 rfl (by kernel_rfl) tabOk [] (Nat.le_of_ble_eq_true rfl) (fun F hF Q hQ hQn => ?_)
  simp only [laws_szFile.f] at H
  (conv => cbv)
  repeat' first
    | replace H := s_ H
    | (rw [itn_iff] at H; obtain ⟨hc, H⟩ := H)
    | (rw [itn2_iff] at H; obtain ⟨hc, H⟩ := H)
    | ((with_reducible refine br_ hF (fun hb => ?_) (fun hb => ?_)) <;> ((try simp only [hF, hE] at hb); (try simp only [hs, vs] at hb); first | rw [if_pos hb] at H | rw [if_neg hb] at H | rw [if_nn hb] at H | replace H := i_ hb H | (simp only [hb, not_t, b_f, not_true_eq_false, not_false_eq_true, Bool.not_true, Bool.not_false, Bool.false_eq_true, if_true, if_false] at H) | skip) <;> (try (conv => cbv)))
    | (refine w_ hF ?_; (try (conv => cbv)))
    | ((with_reducible first | refine end_ ⟨[4], [], [], []⟩ 20 hQ (by cbv) ?_ | refine end_ ⟨[4], [], [], []⟩ 20 hQn (by cbv) ?_); (with_reducible have hS := Option.some.inj H); clear hS; cases H; exact f_)
    | contradiction
theorem laws_szFileS.l0_s {k : Nat} {x0 : List S171} {x1 : Int} {x5 : Int} {r : _} (h : laws_szFileS.l0 k x0 x1 x5 = some r) : ∃ m, k = m + 1 ∧ laws_szFileS.l0 (m + 1) x0 x1 x5 = some r := by
  cases k with
  | zero => simp [laws_szFileS.l0] at h
  | succ m => exact ⟨m, rfl, h⟩
set_option maxRecDepth 100000 in
set_option maxHeartbeats 4000000 in
theorem laws_szFileS.con (E : En) (hE : E = E0) {k : Nat} {l0 : List S171} {a1 : Int} {r : Int} (H : laws_szFileS.f k l0 a1 = some (r)) :
    Con Tryz.prog TBX 55 [.c (.sl [.str, .str] (E.e171 l0)), .c (.int .i64 a1)] [] (.c (.int .i64 r)) [] [] := by
  refine con_of Tryz.func55 rfl (by kernel_rfl) tabOk [] (Nat.le_of_ble_eq_true rfl) (fun F hF Q hQ hQn => ?_)
  simp only [laws_szFileS.f] at H
  (conv => cbv)
  repeat' first
    | replace H := s_ H
    | (rw [itn_iff] at H; obtain ⟨hc, H⟩ := H)
    | (rw [itn2_iff] at H; obtain ⟨hc, H⟩ := H)
    | ((with_reducible refine br_ hF (fun hb => ?_) (fun hb => ?_)) <;> ((try simp only [hF, hE] at hb); (try simp only [hs, vs] at hb); first | rw [if_pos hb] at H | rw [if_neg hb] at H | rw [if_nn hb] at H | replace H := i_ hb H | (simp only [hb, not_t, b_f, not_true_eq_false, not_false_eq_true, Bool.not_true, Bool.not_false, Bool.false_eq_true, if_true, if_false] at H) | skip) <;> (try (conv => cbv)))
    | (refine w_ hF ?_; (try (conv => cbv)))
    | ((with_reducible show Hd.call F 126 _ _ _); rw [bind_iff] at H; obtain ⟨y, hy, H⟩ := H; (try dsimp only at H); refine call_ hF (laws_szFile.con E hE hy) f_ f_ ?_; (try (conv => cbv)))
    | ((with_reducible refine loop_ hF (fun n t => n ≤ k ∧ ∃ (x0 : List S171) (x1 : Int) (x5 : Int), t = At 27 [(0, .c (.sl [.str, .str] (E.e171 x0))), (1, .c (.int .i64 x1)), (5, .c (.int .i64 x5))] [] ∧ laws_szFileS.l0 n x0 x1 x5 = some (r)) _ (head_ ⟨[0, 1, 5], [], [], []⟩ ⟨by omega, _, _, _, rfl, H⟩ (by cbv) f_ f_) (fun n0 t ht Q0 hN0 hX0 => ?_)); obtain ⟨hle0, x0, x1, x5, rfl, H⟩ := ht; obtain ⟨m, hm, H⟩ := laws_szFileS.l0_s H; simp only [laws_szFileS.l0] at H; (try (conv => cbv)))
    | ((with_reducible refine hN0 _ ⟨_, ?lt, head_ ⟨[0, 1, 5], [], [], []⟩ ⟨by omega, _, _, _, rfl, H⟩ (by cbv) f_ f_⟩); (case lt => omega))
    | ((with_reducible refine hX0 _ _ ne_ret ?_); (try (conv => cbv)))
    | ((with_reducible refine hX0 _ _ (ne_exit _) ?_); (try (conv => cbv)))
    | ((with_reducible first | refine end_ ⟨[4], [], [], []⟩ 27 hQ (by cbv) ?_ | refine end_ ⟨[4], [], [], []⟩ 27 hQn (by cbv) ?_); (with_reducible have hS := Option.some.inj H); clear hS; cases H; exact f_)
    | contradiction
set_option maxRecDepth 100000 in
set_option maxHeartbeats 4000000 in
theorem laws_szDisk.con (E : En) (hE : E = E0) {k : Nat} {l0_0 : List S171} {a1 : Int} {r : Int} (H : laws_szDisk.f k l0_0 a1 = some (r)) :
    Con Tryz.prog TBX 12 [.agg [.c (.sl [.str, .str] (E.e171 l0_0))], .c (.int .i64 a1)] [] (.c (.int .i64 r)) [] [] := by
  refine con_of Tryz.func12 rfl (by kernel_rfl) tabOk [] (Nat.le_of_ble_eq_true rfl) (fun F hF Q hQ hQn => ?_)
  simp only [laws_szDisk.f] at H
  (conv => cbv)
  repeat' first
    | replace H := s_ H
    | (rw [itn_iff] at H; obtain ⟨hc, H⟩ := H)
    | (rw [itn2_iff] at H; obtain ⟨hc, H⟩ := H)
    | ((with_reducible refine br_ hF (fun hb => ?_) (fun hb => ?_)) <;> ((try simp only [hF, hE] at hb); (try simp only [hs, vs] at hb); first | rw [if_pos hb] at H | rw [if_neg hb] at H | rw [if_nn hb] at H | replace H := i_ hb H | (simp only [hb, not_t, b_f, not_true_eq_false, not_false_eq_true, Bool.not_true, Bool.not_false, Bool.false_eq_true, if_true, if_false] at H) | skip) <;> (try (conv => cbv)))
    | (refine w_ hF ?_; (try (conv => cbv)))
    | ((with_reducible show Hd.call F 55 _ _ _); rw [bind_iff] at H; obtain ⟨y, hy, H⟩ := H; (try dsimp only at H); refine call_ hF (laws_szFileS.con E hE hy) f_ f_ ?_; (try (conv => cbv)))
    | ((with_reducible first | refine end_ ⟨[4], [], [], []⟩ 12 hQ (by cbv) ?_ | refine end_ ⟨[4], [], [], []⟩ 12 hQn (by cbv) ?_); (with_reducible have hS := Option.some.inj H); clear hS; cases H; exact f_)
    | contradiction
set_option maxRecDepth 100000 in
set_option maxHeartbeats 4000000 in
theorem laws_toFile.con (E : En) (hE : E = E0) {a0_0 : ByteArray} {a0_1 : ByteArray} {r1 : ByteArray} {r2 : ByteArray} (H : laws_toFile.f a0_0 a0_1 = some (r1, r2)) :
    Con Tryz.prog TBX 139 [.agg [.c (.str a0_0), .c (.str a0_1)]] [] (.agg [.c (.str r1), .c (.str r2)]) [] [] := by
  refine con_of Tryz.func139 rfl (by kernel_rfl) tabOk [] (Nat.le_of_ble_eq_true rfl) (fun F hF Q hQ hQn => ?_)
  simp only [laws_toFile.f] at H
  (conv => cbv)
  repeat' first
    | replace H := s_ H
    | (rw [itn_iff] at H; obtain ⟨hc, H⟩ := H)
    | (rw [itn2_iff] at H; obtain ⟨hc, H⟩ := H)
    | ((with_reducible refine br_ hF (fun hb => ?_) (fun hb => ?_)) <;> ((try simp only [hF, hE] at hb); (try simp only [hs, vs] at hb); first | rw [if_pos hb] at H | rw [if_neg hb] at H | rw [if_nn hb] at H | replace H := i_ hb H | (simp only [hb, not_t, b_f, not_true_eq_false, not_false_eq_true, Bool.not_true, Bool.not_false, Bool.false_eq_true, if_true, if_false] at H) | skip) <;> (try (conv => cbv)))
    | (refine w_ hF ?_; (try (conv => cbv)))
    | ((with_reducible first | refine end_ ⟨[2], [2], [], []⟩ 11 hQ (by cbv) ?_ | refine end_ ⟨[2], [2], [], []⟩ 11 hQn (by cbv) ?_); (with_reducible have hS := Option.some.inj H); clear hS; cases H; exact f_)
    | contradiction
theorem laws_toFileS.l0_s {k : Nat} {x0 : List S171} {x3 : List S122} {x4 : Int} {r : _} (h : laws_toFileS.l0 k x0 x3 x4 = some r) : ∃ m, k = m + 1 ∧ laws_toFileS.l0 (m + 1) x0 x3 x4 = some r := by
  cases k with
  | zero => simp [laws_toFileS.l0] at h
  | succ m => exact ⟨m, rfl, h⟩
set_option maxRecDepth 100000 in
set_option maxHeartbeats 4000000 in
theorem laws_toFileS.con (E : En) (hE : E = E0) {k : Nat} {l0 : List S171} {r : List S122} (H : laws_toFileS.f k l0 = some (r)) :
    Con Tryz.prog TBX 64 [.c (.sl [.str, .str] (E.e171 l0))] [] (.own 0) [.row false 122 [.str, .str] (E.e122 r)] [] := by
  refine con_of Tryz.func64 rfl (by kernel_rfl) tabOk [20002] (Nat.le_of_ble_eq_true rfl) (fun F hF Q hQ hQn => ?_)
  simp only [laws_toFileS.f] at H
  (conv => cbv)
  repeat' first
    | replace H := s_ H
    | (rw [itn_iff] at H; obtain ⟨hc, H⟩ := H)
    | (rw [itn2_iff] at H; obtain ⟨hc, H⟩ := H)
    | ((with_reducible refine br_ hF (fun hb => ?_) (fun hb => ?_)) <;> ((try simp only [hF, hE] at hb); (try simp only [hs, vs] at hb); first | rw [if_pos hb] at H | rw [if_neg hb] at H | rw [if_nn hb] at H | replace H := i_ hb H | (simp only [hb, not_t, b_f, not_true_eq_false, not_false_eq_true, Bool.not_true, Bool.not_false, Bool.false_eq_true, if_true, if_false] at H) | skip) <;> (try (conv => cbv)))
    | (refine w_ hF ?_; (try (conv => cbv)))
    | ((with_reducible show Hd.call F 139 _ _ _); rw [bind_iff] at H; obtain ⟨⟨y1, y2⟩, hy, H⟩ := H; (try dsimp only at H); refine call_ hF (laws_toFile.con E hE hy) f_ f_ ?_; (try (conv => cbv)))
    | ((with_reducible refine loop_ hF (fun n t => n ≤ k ∧ ∃ (x0 : List S171) (x3 : List S122) (x4 : Int), t = At 23 [(0, .c (.sl [.str, .str] (E.e171 x0))), (3, .own 20003), (4, .c (.int .i64 x4))] [(20003, .row false 122 [.str, .str] (E.e122 x3))] ∧ laws_toFileS.l0 n x0 x3 x4 = some (r)) _ (head_ ⟨[0, 3, 4], [], [(3, 122)], []⟩ ⟨by omega, _, _, _, rfl, H⟩ (by cbv) f_ f_) (fun n0 t ht Q0 hN0 hX0 => ?_)); obtain ⟨hle0, x0, x3, x4, rfl, H⟩ := ht; obtain ⟨m, hm, H⟩ := laws_toFileS.l0_s H; simp only [laws_toFileS.l0] at H; (try (conv => cbv)))
    | ((with_reducible refine hN0 _ ⟨_, ?lt, head_ ⟨[0, 3, 4], [], [(3, 122)], []⟩ ⟨by omega, _, _, _, rfl, H⟩ (by cbv) f_ f_⟩); (case lt => omega))
    | ((with_reducible refine hX0 _ _ ne_ret ?_); (try (conv => cbv)))
    | ((with_reducible refine hX0 _ _ (ne_exit _) ?_); (try (conv => cbv)))
    | ((with_reducible first | refine end_ ⟨[2], [], [(2, 122)], []⟩ 23 hQ (by cbv) ?_ | refine end_ ⟨[2], [], [(2, 122)], []⟩ 23 hQn (by cbv) ?_); (with_reducible have hS := Option.some.inj H); clear hS; cases H; exact f_)
    | contradiction
set_option maxRecDepth 100000 in
set_option maxHeartbeats 4000000 in
theorem laws_toDisk.con (E : En) (hE : E = E0) {k : Nat} {l0_0 : List S171} {r : List S122} (H : laws_toDisk.f k l0_0 = some (r)) :
    Con Tryz.prog TBX 15 [.agg [.c (.sl [.str, .str] (E.e171 l0_0))]] [] (.agg [.own 0]) [.row false 122 [.str, .str] (E.e122 r)] [] := by
  refine con_of Tryz.func15 rfl (by kernel_rfl) tabOk [400040] (Nat.le_of_ble_eq_true rfl) (fun F hF Q hQ hQn => ?_)
  simp only [laws_toDisk.f] at H
  (conv => cbv)
  repeat' first
    | replace H := s_ H
    | (rw [itn_iff] at H; obtain ⟨hc, H⟩ := H)
    | (rw [itn2_iff] at H; obtain ⟨hc, H⟩ := H)
    | ((with_reducible refine br_ hF (fun hb => ?_) (fun hb => ?_)) <;> ((try simp only [hF, hE] at hb); (try simp only [hs, vs] at hb); first | rw [if_pos hb] at H | rw [if_neg hb] at H | rw [if_nn hb] at H | replace H := i_ hb H | (simp only [hb, not_t, b_f, not_true_eq_false, not_false_eq_true, Bool.not_true, Bool.not_false, Bool.false_eq_true, if_true, if_false] at H) | skip) <;> (try (conv => cbv)))
    | (refine w_ hF ?_; (try (conv => cbv)))
    | ((with_reducible show Hd.call F 64 _ _ _); rw [bind_iff] at H; obtain ⟨y, hy, H⟩ := H; (try dsimp only at H); refine call_ hF (laws_toFileS.con E hE hy) f_ f_ ?_; (try (conv => cbv)))
    | ((with_reducible first | refine end_ ⟨[2], [2], [], [(2, 0, 122)]⟩ 9 hQ (by cbv) ?_ | refine end_ ⟨[2], [2], [], [(2, 0, 122)]⟩ 9 hQn (by cbv) ?_); (with_reducible have hS := Option.some.inj H); clear hS; cases H; exact f_)
    | contradiction
set_option maxRecDepth 100000 in
set_option maxHeartbeats 4000000 in
theorem spec_l01In.con (E : En) (hE : E = E0) {a0 : Int} {a1 : Int} {a2 : Int} {r : Bool} (H : spec_l01In.f a0 a1 a2 = some (r)) :
    Con Tryz.prog TBX 131 [.c (.int .i64 a0), .c (.int .i64 a1), .c (.int .i64 a2)] [] (.c (.bool r)) [] [] := by
  refine con_of Tryz.func131 rfl (by kernel_rfl) tabOk [] (Nat.le_of_ble_eq_true rfl) (fun F hF Q hQ hQn => ?_)
  simp only [spec_l01In.f] at H
  (conv => cbv)
  repeat' first
    | replace H := s_ H
    | (rw [itn_iff] at H; obtain ⟨hc, H⟩ := H)
    | (rw [itn2_iff] at H; obtain ⟨hc, H⟩ := H)
    | ((with_reducible refine br_ hF (fun hb => ?_) (fun hb => ?_)) <;> ((try simp only [hF, hE] at hb); (try simp only [hs, vs] at hb); first | rw [if_pos hb] at H | rw [if_neg hb] at H | rw [if_nn hb] at H | replace H := i_ hb H | (simp only [hb, not_t, b_f, not_true_eq_false, not_false_eq_true, Bool.not_true, Bool.not_false, Bool.false_eq_true, if_true, if_false] at H) | skip) <;> (try (conv => cbv)))
    | (refine w_ hF ?_; (try (conv => cbv)))
    | ((with_reducible first | refine end_ ⟨[6], [], [], []⟩ 15 hQ (by cbv) ?_ | refine end_ ⟨[6], [], [], []⟩ 15 hQn (by cbv) ?_); (with_reducible have hS := Option.some.inj H); clear hS; cases H; exact f_)
    | contradiction
theorem spec_DiskOk.l0_s {k : Nat} {x3 : Int} {x178000 : List S122} {r : _} (h : spec_DiskOk.l0 k x3 x178000 = some r) : ∃ m, k = m + 1 ∧ spec_DiskOk.l0 (m + 1) x3 x178000 = some r := by
  cases k with
  | zero => simp [spec_DiskOk.l0] at h
  | succ m => exact ⟨m, rfl, h⟩
set_option maxRecDepth 100000 in
set_option maxHeartbeats 4000000 in
theorem spec_DiskOk.con (E : En) (hE : E = E0) {k : Nat} {l0_0 : List S122} {r : Bool} (H : spec_DiskOk.f k l0_0 = some (r)) :
    Con Tryz.prog TBX 95 [.agg [.c (.sl [.str, .str] (E.e122 l0_0))]] [] (.c (.bool r)) [] [] := by
  refine con_of Tryz.func95 rfl (by kernel_rfl) tabOk [] (Nat.le_of_ble_eq_true rfl) (fun F hF Q hQ hQn => ?_)
  simp only [spec_DiskOk.f] at H
  (conv => cbv)
  repeat' first
    | replace H := s_ H
    | (rw [itn_iff] at H; obtain ⟨hc, H⟩ := H)
    | (rw [itn2_iff] at H; obtain ⟨hc, H⟩ := H)
    | ((with_reducible refine br_ hF (fun hb => ?_) (fun hb => ?_)) <;> ((try simp only [hF, hE] at hb); (try simp only [hs, vs] at hb); first | rw [if_pos hb] at H | rw [if_neg hb] at H | rw [if_nn hb] at H | replace H := i_ hb H | (simp only [hb, not_t, b_f, not_true_eq_false, not_false_eq_true, Bool.not_true, Bool.not_false, Bool.false_eq_true, if_true, if_false] at H) | skip) <;> (try (conv => cbv)))
    | (refine w_ hF ?_; (try (conv => cbv)))
    | ((with_reducible show Hd.call F 131 _ _ _); rw [bind_iff] at H; obtain ⟨y, hy, H⟩ := H; (try dsimp only at H); refine call_ hF (spec_l01In.con E hE hy) f_ f_ ?_; (try (conv => cbv)))
    | ((with_reducible refine loop_ hF (fun n t => n ≤ k ∧ ∃ (x3 : Int) (x178000 : List S122), t = At 54 [(1, .ptr 1 0), (3, .c (.int .i64 x3))] [(1, .box [.c (.sl [.str, .str] (E.e122 x178000))])] ∧ spec_DiskOk.l0 n x3 x178000 = some (r)) _ (head_ ⟨[1, 3], [1], [], []⟩ ⟨by omega, _, _, rfl, H⟩ (by cbv) f_ f_) (fun n0 t ht Q0 hN0 hX0 => ?_)); obtain ⟨hle0, x3, x178000, rfl, H⟩ := ht; obtain ⟨m, hm, H⟩ := spec_DiskOk.l0_s H; simp only [spec_DiskOk.l0] at H; (try (conv => cbv)))
    | ((with_reducible refine hN0 _ ⟨_, ?lt, head_ ⟨[1, 3], [1], [], []⟩ ⟨by omega, _, _, rfl, H⟩ (by cbv) f_ f_⟩); (case lt => omega))
    | ((with_reducible refine hX0 _ _ ne_ret ?_); (try (conv => cbv)))
    | ((with_reducible refine hX0 _ _ (ne_exit _) ?_); (try (conv => cbv)))
    | ((with_reducible first | refine end_ ⟨[2], [], [], []⟩ 54 hQ (by cbv) ?_ | refine end_ ⟨[2], [], [], []⟩ 54 hQn (by cbv) ?_); (with_reducible have hS := Option.some.inj H); clear hS; cases H; exact f_)
    | contradiction
theorem spec_l03At.l0_s {k : Nat} {x1 : ByteArray} {x5 : Int} {x146000 : List S122} {r : _} (h : spec_l03At.l0 k x1 x5 x146000 = some r) : ∃ m, k = m + 1 ∧ spec_l03At.l0 (m + 1) x1 x5 x146000 = some r := by
  cases k with
  | zero => simp [spec_l03At.l0] at h
  | succ m => exact ⟨m, rfl, h⟩
set_option maxRecDepth 100000 in
set_option maxHeartbeats 4000000 in
theorem spec_l03At.con (E : En) (hE : E = E0) {k : Nat} {l0_0 : List S122} {a1 : ByteArray} {r : Int} (H : spec_l03At.f k l0_0 a1 = some (r)) :
    Con Tryz.prog TBX 75 [.agg [.c (.sl [.str, .str] (E.e122 l0_0))], .c (.str a1)] [] (.c (.int .i64 r)) [] [] := by
  refine con_of Tryz.func75 rfl (by kernel_rfl) tabOk [] (Nat.le_of_ble_eq_true rfl) (fun F hF Q hQ hQn => ?_)
  simp only [spec_l03At.f] at H
  (conv => cbv)
  repeat' first
    | replace H := s_ H
    | (rw [itn_iff] at H; obtain ⟨hc, H⟩ := H)
    | (rw [itn2_iff] at H; obtain ⟨hc, H⟩ := H)
    | ((with_reducible refine br_ hF (fun hb => ?_) (fun hb => ?_)) <;> ((try simp only [hF, hE] at hb); (try simp only [hs, vs] at hb); first | rw [if_pos hb] at H | rw [if_neg hb] at H | rw [if_nn hb] at H | replace H := i_ hb H | (simp only [hb, not_t, b_f, not_true_eq_false, not_false_eq_true, Bool.not_true, Bool.not_false, Bool.false_eq_true, if_true, if_false] at H) | skip) <;> (try (conv => cbv)))
    | (refine w_ hF ?_; (try (conv => cbv)))
    | ((with_reducible refine loop_ hF (fun n t => n ≤ k ∧ ∃ (x1 : ByteArray) (x5 : Int) (x146000 : List S122), t = At 22 [(1, .c (.str x1)), (2, .ptr 2 0), (5, .c (.int .i64 x5))] [(2, .box [.c (.sl [.str, .str] (E.e122 x146000))])] ∧ spec_l03At.l0 n x1 x5 x146000 = some (r)) _ (head_ ⟨[1, 2, 5], [2], [], []⟩ ⟨by omega, _, _, _, rfl, H⟩ (by cbv) f_ f_) (fun n0 t ht Q0 hN0 hX0 => ?_)); obtain ⟨hle0, x1, x5, x146000, rfl, H⟩ := ht; obtain ⟨m, hm, H⟩ := spec_l03At.l0_s H; simp only [spec_l03At.l0] at H; (try (conv => cbv)))
    | ((with_reducible refine hN0 _ ⟨_, ?lt, head_ ⟨[1, 2, 5], [2], [], []⟩ ⟨by omega, _, _, _, rfl, H⟩ (by cbv) f_ f_⟩); (case lt => omega))
    | ((with_reducible refine hX0 _ _ ne_ret ?_); (try (conv => cbv)))
    | ((with_reducible refine hX0 _ _ (ne_exit _) ?_); (try (conv => cbv)))
    | ((with_reducible first | refine end_ ⟨[4], [], [], []⟩ 22 hQ (by cbv) ?_ | refine end_ ⟨[4], [], [], []⟩ 22 hQn (by cbv) ?_); (with_reducible have hS := Option.some.inj H); clear hS; cases H; exact f_)
    | contradiction
set_option maxRecDepth 100000 in
set_option maxHeartbeats 4000000 in
theorem spec_FileAt.con (E : En) (hE : E = E0) {k : Nat} {l0_0 : List S122} {a1 : ByteArray} {r1 : ByteArray} {r2 : Bool} (H : spec_FileAt.f k l0_0 a1 = some (r1, r2)) :
    Con Tryz.prog TBX 150 [.agg [.c (.sl [.str, .str] (E.e122 l0_0))], .c (.str a1)] [] (.tup [.c (.str r1), .c (.bool r2)]) [] [] := by
  refine con_of Tryz.func150 rfl (by kernel_rfl) tabOk [] (Nat.le_of_ble_eq_true rfl) (fun F hF Q hQ hQn => ?_)
  simp only [spec_FileAt.f] at H
  (conv => cbv)
  repeat' first
    | replace H := s_ H
    | (rw [itn_iff] at H; obtain ⟨hc, H⟩ := H)
    | (rw [itn2_iff] at H; obtain ⟨hc, H⟩ := H)
    | ((with_reducible refine br_ hF (fun hb => ?_) (fun hb => ?_)) <;> ((try simp only [hF, hE] at hb); (try simp only [hs, vs] at hb); first | rw [if_pos hb] at H | rw [if_neg hb] at H | rw [if_nn hb] at H | replace H := i_ hb H | (simp only [hb, not_t, b_f, not_true_eq_false, not_false_eq_true, Bool.not_true, Bool.not_false, Bool.false_eq_true, if_true, if_false] at H) | skip) <;> (try (conv => cbv)))
    | (refine w_ hF ?_; (try (conv => cbv)))
    | ((with_reducible show Hd.call F 75 _ _ _); rw [bind_iff] at H; obtain ⟨y, hy, H⟩ := H; (try dsimp only at H); refine call_ hF (spec_l03At.con E hE hy) f_ f_ ?_; (try (conv => cbv)))
    | ((with_reducible show Hd.call F 95 _ _ _); rw [bind_iff] at H; obtain ⟨y, hy, H⟩ := H; (try dsimp only at H); refine call_ hF (spec_DiskOk.con E hE hy) f_ f_ ?_; (try (conv => cbv)))
    | ((with_reducible first | refine end_ ⟨[4, 5], [], [], []⟩ 23 hQ (by cbv) ?_ | refine end_ ⟨[4, 5], [], [], []⟩ 23 hQn (by cbv) ?_); (with_reducible have hS := Option.some.inj H); clear hS; cases H; exact f_)
    | contradiction
theorem spec_SumMore.l0_s {k : Nat} {x0 : Int} {x1 : ByteArray} {x5 : Int} {r : _} (h : spec_SumMore.l0 k x0 x1 x5 = some r) : ∃ m, k = m + 1 ∧ spec_SumMore.l0 (m + 1) x0 x1 x5 = some r := by
  cases k with
  | zero => simp [spec_SumMore.l0] at h
  | succ m => exact ⟨m, rfl, h⟩
theorem spec_SumMore.l1_s {k : Nat} {x0 : Int} {x1 : ByteArray} {x5 : Int} {x6 : Int} {r : _} (h : spec_SumMore.l1 k x0 x1 x5 x6 = some r) : ∃ m, k = m + 1 ∧ spec_SumMore.l1 (m + 1) x0 x1 x5 x6 = some r := by
  cases k with
  | zero => simp [spec_SumMore.l1] at h
  | succ m => exact ⟨m, rfl, h⟩
set_option maxRecDepth 100000 in
set_option maxHeartbeats 4000000 in
theorem spec_SumMore.con (E : En) (hE : E = E0) {k : Nat} {a0 : Int} {a1 : ByteArray} {r : Int} (H : spec_SumMore.f k a0 a1 = some (r)) :
    Con Tryz.prog TBX 198 [.c (.int .u32 a0), .c (.str a1)] [] (.c (.int .u32 r)) [] [] := by
  refine con_of Tryz.func198 rfl (by kernel_rfl) tabOk [] (Nat.le_of_ble_eq_true rfl) (fun F hF Q hQ hQn => ?_)
  simp only [spec_SumMore.f] at H
  (conv => cbv)
  repeat' first
    | replace H := s_ H
    | (rw [itn_iff] at H; obtain ⟨hc, H⟩ := H)
    | (rw [itn2_iff] at H; obtain ⟨hc, H⟩ := H)
    | ((with_reducible refine br_ hF (fun hb => ?_) (fun hb => ?_)) <;> ((try simp only [hF, hE] at hb); (try simp only [hs, vs] at hb); first | rw [if_pos hb] at H | rw [if_neg hb] at H | rw [if_nn hb] at H | replace H := i_ hb H | (simp only [hb, not_t, b_f, not_true_eq_false, not_false_eq_true, Bool.not_true, Bool.not_false, Bool.false_eq_true, if_true, if_false] at H) | skip) <;> (try (conv => cbv)))
    | (refine w_ hF ?_; (try (conv => cbv)))
    | ((with_reducible refine loop_ hF (fun n t => n ≤ k ∧ ∃ (x0 : Int) (x1 : ByteArray) (x5 : Int), t = At 33 [(0, .c (.int .u32 x0)), (1, .c (.str x1)), (5, .c (.int .i64 x5))] [] ∧ spec_SumMore.l0 n x0 x1 x5 = some (r)) _ (head_ ⟨[0, 1, 5], [], [], []⟩ ⟨by omega, _, _, _, rfl, H⟩ (by cbv) f_ f_) (fun n0 t ht Q0 hN0 hX0 => ?_)); obtain ⟨hle0, x0, x1, x5, rfl, H⟩ := ht; obtain ⟨m, hm, H⟩ := spec_SumMore.l0_s H; simp only [spec_SumMore.l0] at H; (try (conv => cbv)))
    | ((with_reducible refine hN0 _ ⟨_, ?lt, head_ ⟨[0, 1, 5], [], [], []⟩ ⟨by omega, _, _, _, rfl, H⟩ (by cbv) f_ f_⟩); (case lt => omega))
    | ((with_reducible refine hX0 _ _ ne_ret ?_); (try (conv => cbv)))
    | ((with_reducible refine hX0 _ _ (ne_exit _) ?_); (try (conv => cbv)))
    | ((with_reducible refine loop_ hF (fun n t => n ≤ n0 ∧ ∃ (x0 : Int) (x1 : ByteArray) (x5 : Int) (x6 : Int), t = At 33 [(0, .c (.int .u32 x0)), (1, .c (.str x1)), (5, .c (.int .i64 x5)), (6, .c (.int .i64 x6))] [] ∧ spec_SumMore.l1 n x0 x1 x5 x6 = some (r)) _ (head_ ⟨[0, 1, 5, 6], [], [], []⟩ ⟨by omega, _, _, _, _, rfl, H⟩ (by cbv) f_ f_) (fun n1 t ht Q1 hN1 hX1 => ?_)); obtain ⟨hle1, x0, x1, x5, x6, rfl, H⟩ := ht; obtain ⟨m, hm, H⟩ := spec_SumMore.l1_s H; simp only [spec_SumMore.l1] at H; (try (conv => cbv)))
    | ((with_reducible refine hN1 _ ⟨_, ?lt, head_ ⟨[0, 1, 5, 6], [], [], []⟩ ⟨by omega, _, _, _, _, rfl, H⟩ (by cbv) f_ f_⟩); (case lt => omega))
    | ((with_reducible refine hX1 _ _ ne_ret ?_); (try (conv => cbv)))
    | ((with_reducible refine hX1 _ _ (ne_exit _) ?_); (try (conv => cbv)))
    | ((with_reducible first | refine end_ ⟨[4], [], [], []⟩ 33 hQ (by cbv) ?_ | refine end_ ⟨[4], [], [], []⟩ 33 hQn (by cbv) ?_); (with_reducible have hS := Option.some.inj H); clear hS; cases H; exact f_)
    | contradiction
end Go.Ev

