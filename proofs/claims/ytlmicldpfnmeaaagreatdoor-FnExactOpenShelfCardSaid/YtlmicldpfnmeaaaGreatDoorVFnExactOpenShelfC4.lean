/- Contracts of the Go functions that this law reaches: what each call returns, by its plain function. No conditions but those that each statement names. By this repo's programs; comments are taken out. -/
import Derived.Test.YtlmicldpfnmeaaaGreatDoorVFnExactOpenShelfD
import Derived.Test.YtlmicldpfnmeaaaGreatDoorVFnExactOpenShelfC0
import Derived.Test.YtlmicldpfnmeaaaGreatDoorVFnExactOpenShelfC1
import Derived.Test.YtlmicldpfnmeaaaGreatDoorVFnExactOpenShelfC2
import Derived.Test.YtlmicldpfnmeaaaGreatDoorVFnExactOpenShelfC3
set_option linter.all false
namespace Go.Ev
open Go.RowKit Go.Proofs Go.Proofs.YtlmicldpfnmeaaaGreatDoorW.PrintWords Go.Proofs.YtlmicldpfnmeaaaGreatDoorW.PrintLast Go.Proofs.YtlmicldpfnmeaaaGreatDoorW.PrintMore
theorem spec_ScanSeg.l0_s {k : Nat} {x1 : Int} {x7 : List S145} {x8 : List ByteArray} {x9 : Int} {x10 : List ByteArray} {x12 : Int} {x13 : Int} {r : _} (h : spec_ScanSeg.l0 k x1 x7 x8 x9 x10 x12 x13 = some r) : ∃ m, k = m + 1 ∧ spec_ScanSeg.l0 (m + 1) x1 x7 x8 x9 x10 x12 x13 = some r := by
  cases k with
  | zero => simp [spec_ScanSeg.l0] at h
  | succ m => exact ⟨m, rfl, h⟩
theorem spec_ScanSeg.l1_s {k : Nat} {x1 : Int} {x7 : List S145} {x8 : List ByteArray} {x9 : Int} {x10 : List ByteArray} {x12 : Int} {x13 : Int} {x16 : ByteArray} {x18 : Int} {x19 : Int} {x363000 : Int} {x363001 : List S162} {r : _} (h : spec_ScanSeg.l1 k x1 x7 x8 x9 x10 x12 x13 x16 x18 x19 x363000 x363001 = some r) : ∃ m, k = m + 1 ∧ spec_ScanSeg.l1 (m + 1) x1 x7 x8 x9 x10 x12 x13 x16 x18 x19 x363000 x363001 = some r := by
  cases k with
  | zero => simp [spec_ScanSeg.l1] at h
  | succ m => exact ⟨m, rfl, h⟩
set_option maxRecDepth 100000 in
set_option maxHeartbeats 4000000 in
theorem spec_ScanSeg.con (E : En) (hE : E = E0) {k : Nat} {a0 : ByteArray} {a1 : Int} {r1 : List S145} {r2 : List ByteArray} {r3 : Int} (H : spec_ScanSeg.f k a0 a1 = some (r1, r2, r3)) :
    Con Tryz.prog TBX 152 [.c (.str a0), .c (.int .i64 a1)] [] (.tup [.own 0, .own 1, .c (.int .i64 r3)]) [.row false 145 [.str, .int .i64, .int .i64, .int .i64] (E.e145 r1), .row false 9 [.str] (E.eS r2)] [] := by
  refine con_of Tryz.func152 rfl (by kernel_rfl) tabOk [20004, 20005] (Nat.le_of_ble_eq_true rfl) (fun F hF Q hQ hQn => ?_)
  simp only [spec_ScanSeg.f] at H
  (conv => cbv)
  repeat' first
    | replace H := s_ H
    | (rw [itn_iff] at H; obtain ⟨hc, H⟩ := H)
    | (rw [itn2_iff] at H; obtain ⟨hc, H⟩ := H)
    | ((with_reducible refine br_ hF (fun hb => ?_) (fun hb => ?_)) <;> ((try simp only [hF, hE] at hb); (try simp only [hs, vs] at hb); first | rw [if_pos hb] at H | rw [if_neg hb] at H | rw [if_nn hb] at H | replace H := i_ hb H | (simp only [hb, not_t, b_f, not_true_eq_false, not_false_eq_true, Bool.not_true, Bool.not_false, Bool.false_eq_true, if_true, if_false] at H) | skip) <;> (try (conv => cbv)))
    | (refine w_ hF ?_; (try (conv => cbv)))
    | ((with_reducible show Hd.call F 59 _ _ _); rw [bind_iff] at H; obtain ⟨⟨y1, y2⟩, hy, H⟩ := H; (try dsimp only at H); refine call_ hF (spec_Unframe.con E hE hy) f_ f_ ?_; (try (conv => cbv)))
    | ((with_reducible show Hd.call F 62 _ _ _); rw [bind_iff] at H; obtain ⟨⟨y1, y2, y3⟩, hy, H⟩ := H; (try dsimp only at H); refine call_ hF (spec_ReadBatch.con E hE hy) f_ f_ ?_; (try (conv => cbv)))
    | ((with_reducible show Hd.call F 63 _ _ _); rw [bind_iff] at H; obtain ⟨⟨y1, y2⟩, hy, H⟩ := H; (try dsimp only at H); refine call_ hF (spec_Frame.con E hE hy) f_ f_ ?_; (try (conv => cbv)))
    | ((with_reducible show Hd.call F 136 _ _ _); rw [bind_iff] at H; obtain ⟨y, hy, H⟩ := H; (try dsimp only at H); refine call_ hF (spec_l01Var.con E hE hy) f_ f_ ?_; (try (conv => cbv)))
    | ((with_reducible show Hd.call F 185 _ _ _); rw [bind_iff] at H; obtain ⟨y, hy, H⟩ := H; (try dsimp only at H); refine call_ hF (spec_l05Short.con E hE hy) f_ f_ ?_; (try (conv => cbv)))
    | ((with_reducible refine loop_ hF (fun n t => n ≤ k ∧ ∃ (x1 : Int) (x7 : List S145) (x8 : List ByteArray) (x9 : Int) (x10 : List ByteArray) (x12 : Int) (x13 : Int), t = At 146 [(1, .c (.int .i64 x1)), (7, .own 20007), (8, .own 20008), (9, .c (.int .i64 x9)), (10, .c (.sl [.str] (E.eS x10))), (12, .c (.int .i64 x12)), (13, .c (.int .i64 x13))] [(20007, .row false 145 [.str, .int .i64, .int .i64, .int .i64] (E.e145 x7)), (20008, .row false 9 [.str] (E.eS x8))] ∧ spec_ScanSeg.l0 n x1 x7 x8 x9 x10 x12 x13 = some (r1, r2, r3)) _ (head_ ⟨[1, 7, 8, 9, 10, 12, 13], [], [(7, 145), (8, 9)], []⟩ ⟨by omega, _, _, _, _, _, _, _, rfl, H⟩ (by cbv) f_ f_) (fun n0 t ht Q0 hN0 hX0 => ?_)); obtain ⟨hle0, x1, x7, x8, x9, x10, x12, x13, rfl, H⟩ := ht; obtain ⟨m, hm, H⟩ := spec_ScanSeg.l0_s H; simp only [spec_ScanSeg.l0] at H; (try (conv => cbv)))
    | ((with_reducible refine hN0 _ ⟨_, ?lt, head_ ⟨[1, 7, 8, 9, 10, 12, 13], [], [(7, 145), (8, 9)], []⟩ ⟨by omega, _, _, _, _, _, _, _, rfl, H⟩ (by cbv) f_ f_⟩); (case lt => omega))
    | ((with_reducible refine hX0 _ _ ne_ret ?_); (try (conv => cbv)))
    | ((with_reducible refine hX0 _ _ (ne_exit _) ?_); (try (conv => cbv)))
    | ((with_reducible refine loop_ hF (fun n t => n ≤ n0 ∧ ∃ (x1 : Int) (x7 : List S145) (x8 : List ByteArray) (x9 : Int) (x10 : List ByteArray) (x12 : Int) (x13 : Int) (x16 : ByteArray) (x18 : Int) (x19 : Int) (x363000 : Int) (x363001 : List S162), t = At 146 [(1, .c (.int .i64 x1)), (7, .own 20007), (8, .own 20008), (9, .c (.int .i64 x9)), (10, .c (.sl [.str] (E.eS x10))), (12, .c (.int .i64 x12)), (13, .c (.int .i64 x13)), (14, .ptr 14 0), (16, .c (.str x16)), (18, .c (.int .i64 x18)), (19, .c (.int .i64 x19))] [(14, .box [.c (.int .i64 x363000), .c (.sl [.str, .str, .bool] (E.e162 x363001))]), (20007, .row false 145 [.str, .int .i64, .int .i64, .int .i64] (E.e145 x7)), (20008, .row false 9 [.str] (E.eS x8))] ∧ spec_ScanSeg.l1 n x1 x7 x8 x9 x10 x12 x13 x16 x18 x19 x363000 x363001 = some (r1, r2, r3)) _ (head_ ⟨[1, 7, 8, 9, 10, 12, 13, 14, 16, 18, 19], [14], [(7, 145), (8, 9)], []⟩ ⟨by omega, _, _, _, _, _, _, _, _, _, _, _, _, rfl, H⟩ (by cbv) f_ f_) (fun n1 t ht Q1 hN1 hX1 => ?_)); obtain ⟨hle1, x1, x7, x8, x9, x10, x12, x13, x16, x18, x19, x363000, x363001, rfl, H⟩ := ht; obtain ⟨m, hm, H⟩ := spec_ScanSeg.l1_s H; simp only [spec_ScanSeg.l1] at H; (try (conv => cbv)))
    | ((with_reducible refine hN1 _ ⟨_, ?lt, head_ ⟨[1, 7, 8, 9, 10, 12, 13, 14, 16, 18, 19], [14], [(7, 145), (8, 9)], []⟩ ⟨by omega, _, _, _, _, _, _, _, _, _, _, _, _, rfl, H⟩ (by cbv) f_ f_⟩); (case lt => omega))
    | ((with_reducible refine hX1 _ _ ne_ret ?_); (try (conv => cbv)))
    | ((with_reducible refine hX1 _ _ (ne_exit _) ?_); (try (conv => cbv)))
    | ((with_reducible first | refine end_ ⟨[4, 5, 6], [], [(4, 145), (5, 9)], []⟩ 146 hQ (by cbv) ?_ | refine end_ ⟨[4, 5, 6], [], [(4, 145), (5, 9)], []⟩ 146 hQn (by cbv) ?_); (with_reducible have hS := Option.some.inj H); clear hS; cases H; exact f_)
    | contradiction
theorem spec_l08More.l0_s {k : Nat} {x1 : List S145} {x5 : List S145} {x6 : Int} {r : _} (h : spec_l08More.l0 k x1 x5 x6 = some r) : ∃ m, k = m + 1 ∧ spec_l08More.l0 (m + 1) x1 x5 x6 = some r := by
  cases k with
  | zero => simp [spec_l08More.l0] at h
  | succ m => exact ⟨m, rfl, h⟩
theorem spec_l08More.l1_s {k : Nat} {x1 : List S145} {x5 : List S145} {x6 : Int} {x8 : List S145} {x9 : Int} {x395000 : ByteArray} {x395001 : Int} {x395002 : Int} {x395003 : Int} {r : _} (h : spec_l08More.l1 k x1 x5 x6 x8 x9 x395000 x395001 x395002 x395003 = some r) : ∃ m, k = m + 1 ∧ spec_l08More.l1 (m + 1) x1 x5 x6 x8 x9 x395000 x395001 x395002 x395003 = some r := by
  cases k with
  | zero => simp [spec_l08More.l1] at h
  | succ m => exact ⟨m, rfl, h⟩
theorem spec_l08More.j2_s {k : Nat} {x1 : List S145} {x5 : List S145} {x6 : Int} {x8 : List S145} {x395000 : ByteArray} {x395001 : Int} {x395002 : Int} {x395003 : Int} {r : _} (h : spec_l08More.j2 k x1 x5 x6 x8 x395000 x395001 x395002 x395003 = some r) : ∃ m, k = m + 1 ∧ spec_l08More.j2 (m + 1) x1 x5 x6 x8 x395000 x395001 x395002 x395003 = some r := by
  cases k with
  | zero => simp [spec_l08More.j2] at h
  | succ m => exact ⟨m, rfl, h⟩
theorem spec_l08More.l2_s {k : Nat} {x1 : List S145} {x5 : List S145} {x6 : Int} {x8 : List S145} {x10 : Int} {x395000 : ByteArray} {x395001 : Int} {x395002 : Int} {x395003 : Int} {r : _} (h : spec_l08More.l2 k x1 x5 x6 x8 x10 x395000 x395001 x395002 x395003 = some r) : ∃ m, k = m + 1 ∧ spec_l08More.l2 (m + 1) x1 x5 x6 x8 x10 x395000 x395001 x395002 x395003 = some r := by
  cases k with
  | zero => simp [spec_l08More.l2] at h
  | succ m => exact ⟨m, rfl, h⟩
theorem spec_l08More.j2_i {k : Nat} {x1 : List S145} {x5 : List S145} {x6 : Int} {x8 : List S145} {x395000 : ByteArray} {x395001 : Int} {x395002 : Int} {x395003 : Int} {r : _} : (spec_l08More.j2 k x1 x5 x6 x8 x395000 x395001 x395002 x395003 = some r) = (∃ m, k = m + 1 ∧ spec_l08More.j2 (m + 1) x1 x5 x6 x8 x395000 x395001 x395002 x395003 = some r) := propext ⟨spec_l08More.j2_s, fun ⟨m, h, h2⟩ => by rw [h]; exact h2⟩
set_option maxRecDepth 100000 in
set_option maxHeartbeats 4000000 in
theorem spec_l08More.con (E : En) (hE : E = E0) {k : Nat} {l0 : List S145} {l1 : List S145} {r : List S145} (H : spec_l08More.f k l0 l1 = some (r)) :
    Con Tryz.prog TBX 153 [.c (.sl [.str, .int .i64, .int .i64, .int .i64] (E.e145 l0)), .c (.sl [.str, .int .i64, .int .i64, .int .i64] (E.e145 l1))] [] (.own 0) [.row false 145 [.str, .int .i64, .int .i64, .int .i64] (E.e145 r)] [] := by
  refine con_of Tryz.func153 rfl (by kernel_rfl) tabOk [20004] (Nat.le_of_ble_eq_true rfl) (fun F hF Q hQ hQn => ?_)
  simp only [spec_l08More.f] at H
  (conv => cbv)
  repeat' first
    | (rw [spec_l08More.j2_i] at H; obtain ⟨m, hm, H⟩ := H; simp only [spec_l08More.j2] at H; (try simp only [decide_eq_true_eq, Bool.false_eq_true, if_false, if_true] at H))
    | replace H := s_ H
    | (rw [itn_iff] at H; obtain ⟨hc, H⟩ := H)
    | (rw [itn2_iff] at H; obtain ⟨hc, H⟩ := H)
    | ((with_reducible refine br_ hF (fun hb => ?_) (fun hb => ?_)) <;> ((try simp only [hF, hE] at hb); (try simp only [hs, vs] at hb); first | rw [if_pos hb] at H | rw [if_neg hb] at H | rw [if_nn hb] at H | replace H := i_ hb H | (simp only [hb, not_t, b_f, not_true_eq_false, not_false_eq_true, Bool.not_true, Bool.not_false, Bool.false_eq_true, if_true, if_false] at H) | skip) <;> (try (conv => cbv)))
    | (refine w_ hF ?_; (try (conv => cbv)))
    | ((with_reducible refine loop_ hF (fun n t => n ≤ k ∧ ∃ (x1 : List S145) (x5 : List S145) (x6 : Int), t = At 76 [(1, .c (.sl [.str, .int .i64, .int .i64, .int .i64] (E.e145 x1))), (5, .own 20005), (6, .c (.int .i64 x6))] [(20005, .row false 145 [.str, .int .i64, .int .i64, .int .i64] (E.e145 x5))] ∧ spec_l08More.l0 n x1 x5 x6 = some (r)) _ (head_ ⟨[1, 5, 6], [], [(5, 145)], []⟩ ⟨by omega, _, _, _, rfl, H⟩ (by cbv) f_ f_) (fun n0 t ht Q0 hN0 hX0 => ?_)); obtain ⟨hle0, x1, x5, x6, rfl, H⟩ := ht; obtain ⟨m, hm, H⟩ := spec_l08More.l0_s H; simp only [spec_l08More.l0] at H; (try (conv => cbv)))
    | ((with_reducible refine hN0 _ ⟨_, ?lt, head_ ⟨[1, 5, 6], [], [(5, 145)], []⟩ ⟨by omega, _, _, _, rfl, H⟩ (by cbv) f_ f_⟩); (case lt => omega))
    | ((with_reducible refine hX0 _ _ ne_ret ?_); (try (conv => cbv)))
    | ((with_reducible refine hX0 _ _ (ne_exit _) ?_); (try (conv => cbv)))
    | ((with_reducible refine loop_ hF (fun n t => n ≤ n0 ∧ ∃ (x1 : List S145) (x5 : List S145) (x6 : Int) (x8 : List S145) (x9 : Int) (x395000 : ByteArray) (x395001 : Int) (x395002 : Int) (x395003 : Int), t = At 76 [(1, .c (.sl [.str, .int .i64, .int .i64, .int .i64] (E.e145 x1))), (5, .own 20005), (6, .c (.int .i64 x6)), (7, .ptr 7 0), (8, .own 20008), (9, .c (.int .i64 x9))] [(7, .box [.c (.str x395000), .c (.int .i64 x395001), .c (.int .i64 x395002), .c (.int .i64 x395003)]), (20005, .row false 145 [.str, .int .i64, .int .i64, .int .i64] (E.e145 x5)), (20008, .row false 145 [.str, .int .i64, .int .i64, .int .i64] (E.e145 x8))] ∧ spec_l08More.l1 n x1 x5 x6 x8 x9 x395000 x395001 x395002 x395003 = some (r)) _ (head_ ⟨[1, 5, 6, 7, 8, 9], [7], [(5, 145), (8, 145)], []⟩ ⟨by omega, _, _, _, _, _, _, _, _, _, rfl, H⟩ (by cbv) f_ f_) (fun n1 t ht Q1 hN1 hX1 => ?_)); obtain ⟨hle1, x1, x5, x6, x8, x9, x395000, x395001, x395002, x395003, rfl, H⟩ := ht; obtain ⟨m, hm, H⟩ := spec_l08More.l1_s H; simp only [spec_l08More.l1] at H; (try (conv => cbv)))
    | ((with_reducible refine hN1 _ ⟨_, ?lt, head_ ⟨[1, 5, 6, 7, 8, 9], [7], [(5, 145), (8, 145)], []⟩ ⟨by omega, _, _, _, _, _, _, _, _, _, rfl, H⟩ (by cbv) f_ f_⟩); (case lt => omega))
    | ((with_reducible refine hX1 _ _ ne_ret ?_); (try (conv => cbv)))
    | ((with_reducible refine hX1 _ _ (ne_exit _) ?_); (try (conv => cbv)))
    | ((with_reducible refine loop_ hF (fun n t => n ≤ n0 ∧ ∃ (x1 : List S145) (x5 : List S145) (x6 : Int) (x8 : List S145) (x10 : Int) (x395000 : ByteArray) (x395001 : Int) (x395002 : Int) (x395003 : Int), t = At 76 [(1, .c (.sl [.str, .int .i64, .int .i64, .int .i64] (E.e145 x1))), (5, .own 20005), (6, .c (.int .i64 x6)), (7, .ptr 7 0), (8, .own 20008), (10, .c (.int .i64 x10))] [(7, .box [.c (.str x395000), .c (.int .i64 x395001), .c (.int .i64 x395002), .c (.int .i64 x395003)]), (20005, .row false 145 [.str, .int .i64, .int .i64, .int .i64] (E.e145 x5)), (20008, .row false 145 [.str, .int .i64, .int .i64, .int .i64] (E.e145 x8))] ∧ spec_l08More.l2 n x1 x5 x6 x8 x10 x395000 x395001 x395002 x395003 = some (r)) _ (head_ ⟨[1, 5, 6, 7, 8, 10], [7], [(5, 145), (8, 145)], []⟩ ⟨by omega, _, _, _, _, _, _, _, _, _, rfl, H⟩ (by cbv) f_ f_) (fun n2 t ht Q2 hN2 hX2 => ?_)); obtain ⟨hle2, x1, x5, x6, x8, x10, x395000, x395001, x395002, x395003, rfl, H⟩ := ht; obtain ⟨m, hm, H⟩ := spec_l08More.l2_s H; simp only [spec_l08More.l2] at H; (try (conv => cbv)))
    | ((with_reducible refine hN2 _ ⟨_, ?lt, head_ ⟨[1, 5, 6, 7, 8, 10], [7], [(5, 145), (8, 145)], []⟩ ⟨by omega, _, _, _, _, _, _, _, _, _, rfl, H⟩ (by cbv) f_ f_⟩); (case lt => omega))
    | ((with_reducible refine hX2 _ _ ne_ret ?_); (try (conv => cbv)))
    | ((with_reducible refine hX2 _ _ (ne_exit _) ?_); (try (conv => cbv)))
    | ((with_reducible first | refine end_ ⟨[4], [], [(4, 145)], []⟩ 76 hQ (by cbv) ?_ | refine end_ ⟨[4], [], [(4, 145)], []⟩ 76 hQn (by cbv) ?_); (with_reducible have hS := Option.some.inj H); clear hS; cases H; exact f_)
    | contradiction
theorem spec_DirOk.l0_s {k : Nat} {x0 : List S145} {x3 : Int} {r : _} (h : spec_DirOk.l0 k x0 x3 = some r) : ∃ m, k = m + 1 ∧ spec_DirOk.l0 (m + 1) x0 x3 = some r := by
  cases k with
  | zero => simp [spec_DirOk.l0] at h
  | succ m => exact ⟨m, rfl, h⟩
set_option maxRecDepth 100000 in
set_option maxHeartbeats 4000000 in
theorem spec_DirOk.con (E : En) (hE : E = E0) {k : Nat} {l0 : List S145} {r : Bool} (H : spec_DirOk.f k l0 = some (r)) :
    Con Tryz.prog TBX 96 [.c (.sl [.str, .int .i64, .int .i64, .int .i64] (E.e145 l0))] [] (.c (.bool r)) [] [] := by
  refine con_of Tryz.func96 rfl (by kernel_rfl) tabOk [] (Nat.le_of_ble_eq_true rfl) (fun F hF Q hQ hQn => ?_)
  simp only [spec_DirOk.f] at H
  (conv => cbv)
  repeat' first
    | replace H := s_ H
    | (rw [itn_iff] at H; obtain ⟨hc, H⟩ := H)
    | (rw [itn2_iff] at H; obtain ⟨hc, H⟩ := H)
    | ((with_reducible refine br_ hF (fun hb => ?_) (fun hb => ?_)) <;> ((try simp only [hF, hE] at hb); (try simp only [hs, vs] at hb); first | rw [if_pos hb] at H | rw [if_neg hb] at H | rw [if_nn hb] at H | replace H := i_ hb H | (simp only [hb, not_t, b_f, not_true_eq_false, not_false_eq_true, Bool.not_true, Bool.not_false, Bool.false_eq_true, if_true, if_false] at H) | skip) <;> (try (conv => cbv)))
    | (refine w_ hF ?_; (try (conv => cbv)))
    | ((with_reducible show Hd.call F 131 _ _ _); rw [bind_iff] at H; obtain ⟨y, hy, H⟩ := H; (try dsimp only at H); refine call_ hF (spec_l01In.con E hE hy) f_ f_ ?_; (try (conv => cbv)))
    | ((with_reducible show Hd.call F 177 _ _ _); rw [bind_iff] at H; obtain ⟨y, hy, H⟩ := H; (try dsimp only at H); refine call_ hF (spec_l05Key.con E hE hy) f_ f_ ?_; (try (conv => cbv)))
    | ((with_reducible refine loop_ hF (fun n t => n ≤ k ∧ ∃ (x0 : List S145) (x3 : Int), t = At 55 [(0, .c (.sl [.str, .int .i64, .int .i64, .int .i64] (E.e145 x0))), (3, .c (.int .i64 x3))] [] ∧ spec_DirOk.l0 n x0 x3 = some (r)) _ (head_ ⟨[0, 3], [], [], []⟩ ⟨by omega, _, _, rfl, H⟩ (by cbv) f_ f_) (fun n0 t ht Q0 hN0 hX0 => ?_)); obtain ⟨hle0, x0, x3, rfl, H⟩ := ht; obtain ⟨m, hm, H⟩ := spec_DirOk.l0_s H; simp only [spec_DirOk.l0] at H; (try (conv => cbv)))
    | ((with_reducible refine hN0 _ ⟨_, ?lt, head_ ⟨[0, 3], [], [], []⟩ ⟨by omega, _, _, rfl, H⟩ (by cbv) f_ f_⟩); (case lt => omega))
    | ((with_reducible refine hX0 _ _ ne_ret ?_); (try (conv => cbv)))
    | ((with_reducible refine hX0 _ _ (ne_exit _) ?_); (try (conv => cbv)))
    | ((with_reducible first | refine end_ ⟨[2], [], [], []⟩ 55 hQ (by cbv) ?_ | refine end_ ⟨[2], [], [], []⟩ 55 hQn (by cbv) ?_); (with_reducible have hS := Option.some.inj H); clear hS; cases H; exact f_)
    | contradiction
end Go.Ev

