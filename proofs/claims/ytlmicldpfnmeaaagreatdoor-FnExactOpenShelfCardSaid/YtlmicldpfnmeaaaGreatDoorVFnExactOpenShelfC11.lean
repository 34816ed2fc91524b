/- Contracts of the Go functions that this law reaches: what each call returns, by its plain function. No conditions but those that each statement names. By this repo's programs; comments are taken out. -/
import Derived.Test.YtlmicldpfnmeaaaGreatDoorVFnExactOpenShelfD
import Derived.Test.YtlmicldpfnmeaaaGreatDoorVFnExactOpenShelfK
import Derived.Test.YtlmicldpfnmeaaaGreatDoorVFnExactOpenShelfC6
import Derived.Test.YtlmicldpfnmeaaaGreatDoorVFnExactOpenShelfC9
import Derived.Test.YtlmicldpfnmeaaaGreatDoorVFnExactOpenShelfC10
set_option linter.all false
namespace Go.Ev
open Go.RowKit Go.Proofs Go.Proofs.YtlmicldpfnmeaaaGreatDoorW.PrintWords Go.Proofs.YtlmicldpfnmeaaaGreatDoorW.PrintLast Go.Proofs.YtlmicldpfnmeaaaGreatDoorW.PrintMore
theorem impl_batchesOf.l0_s {k : Nat} {x6 : List S113} {x7 : Int} {x19 : List ByteArray} {x20 : Int} {x21 : Int} {r : _} (h : impl_batchesOf.l0 k x6 x7 x19 x20 x21 = some r) : ∃ m, k = m + 1 ∧ impl_batchesOf.l0 (m + 1) x6 x7 x19 x20 x21 = some r := by
  cases k with
  | zero => simp [impl_batchesOf.l0] at h
  | succ m => exact ⟨m, rfl, h⟩
set_option maxRecDepth 100000 in
set_option maxHeartbeats 4000000 in
theorem impl_batchesOf.con (E : En) (hE : E = E0) {k : Nat} {a0 : ByteArray} {r1 : List S113} {r2 : Int} (H : impl_batchesOf.f k a0 = some (r1, r2)) :
    Con Tryz.prog TBX 70 [.c (.str a0)] [] (.tup [.own 0, .c (.int .i64 r2)]) [.row false 113 [.int .i64, .sl [.str, .str, .bool], .str, .int .i64] (E.e113 r1)] [] := by
  refine con_of Tryz.func70 rfl (by kernel_rfl) tabOk [20002] (Nat.le_of_ble_eq_true rfl) (fun F hF Q hQ hQn => ?_)
  simp only [impl_batchesOf.f] at H
  (conv => cbv)
  repeat' first
    | replace H := s_ H
    | (rw [itn_iff] at H; obtain ⟨hc, H⟩ := H)
    | (rw [itn2_iff] at H; obtain ⟨hc, H⟩ := H)
    | ((with_reducible refine br_ hF (fun hb => ?_) (fun hb => ?_)) <;> ((try simp only [hF, hE] at hb); (try simp only [hs, vs] at hb); first | rw [if_pos hb] at H | rw [if_neg hb] at H | rw [if_nn hb] at H | replace H := i_ hb H | (simp only [hb, not_t, b_f, not_true_eq_false, not_false_eq_true, Bool.not_true, Bool.not_false, Bool.false_eq_true, if_true, if_false] at H) | skip) <;> (try (conv => cbv)))
    | (refine w_ hF ?_; (try (conv => cbv)))
    | ((with_reducible show Hd.call F 100 _ _ _); rw [bind_iff] at H; obtain ⟨⟨y1, y2⟩, hy, H⟩ := H; (try dsimp only at H); refine call_ hF (impl_Frame.con E hE hy) f_ f_ ?_; (try (conv => cbv)))
    | ((with_reducible show Hd.call F 146 _ _ _); rw [bind_iff] at H; obtain ⟨⟨y1, y2⟩, hy, H⟩ := H; (try dsimp only at H); refine call_ hF (impl_Unframe.con E hE hy) f_ f_ ?_; (try (conv => cbv)))
    | ((with_reducible show Hd.call F 147 _ _ _); rw [bind_iff] at H; obtain ⟨⟨y1, y2, y3⟩, hy, H⟩ := H; (try dsimp only at H); refine call_ hF (impl_ReadBatch.con E hE hy) f_ f_ ?_; (try (conv => cbv)))
    | ((with_reducible refine loop_ hF (fun n t => n ≤ k ∧ ∃ (x6 : List S113) (x7 : Int) (x19 : List ByteArray) (x20 : Int) (x21 : Int), t = At 54 [(6, .own 20006), (7, .c (.int .i64 x7)), (19, .c (.sl [.str] (E.eS x19))), (20, .c (.int .i64 x20)), (21, .c (.int .i64 x21))] [(20006, .row false 113 [.int .i64, .sl [.str, .str, .bool], .str, .int .i64] (E.e113 x6))] ∧ impl_batchesOf.l0 n x6 x7 x19 x20 x21 = some (r1, r2)) _ (head_ ⟨[6, 7, 19, 20, 21], [], [(6, 113)], []⟩ ⟨by omega, _, _, _, _, _, rfl, H⟩ (by cbv) f_ f_) (fun n0 t ht Q0 hN0 hX0 => ?_)); obtain ⟨hle0, x6, x7, x19, x20, x21, rfl, H⟩ := ht; obtain ⟨m, hm, H⟩ := impl_batchesOf.l0_s H; simp only [impl_batchesOf.l0] at H; (try (conv => cbv)))
    | ((with_reducible refine hN0 _ ⟨_, ?lt, head_ ⟨[6, 7, 19, 20, 21], [], [(6, 113)], []⟩ ⟨by omega, _, _, _, _, _, rfl, H⟩ (by cbv) f_ f_⟩); (case lt => omega))
    | ((with_reducible refine hX0 _ _ ne_ret ?_); (try (conv => cbv)))
    | ((with_reducible refine hX0 _ _ (ne_exit _) ?_); (try (conv => cbv)))
    | ((with_reducible first | refine end_ ⟨[2, 3], [], [(2, 113)], []⟩ 54 hQ (by cbv) ?_ | refine end_ ⟨[2, 3], [], [(2, 113)], []⟩ 54 hQn (by cbv) ?_); (with_reducible have hS := Option.some.inj H); clear hS; cases H; exact f_)
    | contradiction
theorem impl_spotsOf.l0_s {k : Nat} {x1 : Int} {x7 : Int} {x8 : List S145} {x31 : List S162} {x32 : Int} {x33 : Int} {r : _} (h : impl_spotsOf.l0 k x1 x7 x8 x31 x32 x33 = some r) : ∃ m, k = m + 1 ∧ impl_spotsOf.l0 (m + 1) x1 x7 x8 x31 x32 x33 = some r := by
  cases k with
  | zero => simp [impl_spotsOf.l0] at h
  | succ m => exact ⟨m, rfl, h⟩
set_option maxRecDepth 100000 in
set_option maxHeartbeats 4000000 in
theorem impl_spotsOf.con (E : En) (hE : E = E0) {k : Nat} {a0_0 : Int} {l0_1 : List S162} {a0_2 : ByteArray} {a0_3 : Int} {a1 : Int} {r : List S145} (H : impl_spotsOf.f k a0_0 l0_1 a0_2 a0_3 a1 = some (r)) :
    Con Tryz.prog TBX 165 [.agg [.c (.int .i64 a0_0), .c (.sl [.str, .str, .bool] (E.e162 l0_1)), .c (.str a0_2), .c (.int .i64 a0_3)], .c (.int .i64 a1)] [] (.own 0) [.row false 145 [.str, .int .i64, .int .i64, .int .i64] (E.e145 r)] [] := by
  refine con_of Tryz.func165 rfl (by kernel_rfl) tabOk [20004] (Nat.le_of_ble_eq_true rfl) (fun F hF Q hQ hQn => ?_)
  simp only [impl_spotsOf.f] at H
  (conv => cbv)
  repeat' first
    | replace H := s_ H
    | (rw [itn_iff] at H; obtain ⟨hc, H⟩ := H)
    | (rw [itn2_iff] at H; obtain ⟨hc, H⟩ := H)
    | ((with_reducible refine br_ hF (fun hb => ?_) (fun hb => ?_)) <;> ((try simp only [hF, hE] at hb); (try simp only [hs, vs] at hb); first | rw [if_pos hb] at H | rw [if_neg hb] at H | rw [if_nn hb] at H | replace H := i_ hb H | (simp only [hb, not_t, b_f, not_true_eq_false, not_false_eq_true, Bool.not_true, Bool.not_false, Bool.false_eq_true, if_true, if_false] at H) | skip) <;> (try (conv => cbv)))
    | (refine w_ hF ?_; (try (conv => cbv)))
    | ((with_reducible show Hd.call F 180 _ _ _); rw [bind_iff] at H; obtain ⟨⟨y1, y2⟩, hy, H⟩ := H; (try dsimp only at H); refine call_ hF (impl_vars.con E hE hy) f_ f_ ?_; (try (conv => cbv)))
    | ((with_reducible show Hd.call F 181 _ _ _); rw [bind_iff] at H; obtain ⟨y, hy, H⟩ := H; (try dsimp only at H); refine call_ hF (impl_short.con E hE hy) f_ f_ ?_; (try (conv => cbv)))
    | ((with_reducible refine loop_ hF (fun n t => n ≤ k ∧ ∃ (x1 : Int) (x7 : Int) (x8 : List S145) (x31 : List S162) (x32 : Int) (x33 : Int), t = At 76 [(1, .c (.int .i64 x1)), (7, .c (.int .i64 x7)), (8, .own 20008), (31, .c (.sl [.str, .str, .bool] (E.e162 x31))), (32, .c (.int .i64 x32)), (33, .c (.int .i64 x33))] [(20008, .row false 145 [.str, .int .i64, .int .i64, .int .i64] (E.e145 x8))] ∧ impl_spotsOf.l0 n x1 x7 x8 x31 x32 x33 = some (r)) _ (head_ ⟨[1, 7, 8, 31, 32, 33], [], [(8, 145)], []⟩ ⟨by omega, _, _, _, _, _, _, rfl, H⟩ (by cbv) f_ f_) (fun n0 t ht Q0 hN0 hX0 => ?_)); obtain ⟨hle0, x1, x7, x8, x31, x32, x33, rfl, H⟩ := ht; obtain ⟨m, hm, H⟩ := impl_spotsOf.l0_s H; simp only [impl_spotsOf.l0] at H; (try (conv => cbv)))
    | ((with_reducible refine hN0 _ ⟨_, ?lt, head_ ⟨[1, 7, 8, 31, 32, 33], [], [(8, 145)], []⟩ ⟨by omega, _, _, _, _, _, _, rfl, H⟩ (by cbv) f_ f_⟩); (case lt => omega))
    | ((with_reducible refine hX0 _ _ ne_ret ?_); (try (conv => cbv)))
    | ((with_reducible refine hX0 _ _ (ne_exit _) ?_); (try (conv => cbv)))
    | ((with_reducible first | refine end_ ⟨[4], [], [(4, 145)], []⟩ 76 hQ (by cbv) ?_ | refine end_ ⟨[4], [], [(4, 145)], []⟩ 76 hQn (by cbv) ?_); (with_reducible have hS := Option.some.inj H); clear hS; cases H; exact f_)
    | contradiction
theorem impl_ScanSeg.l0_s {k : Nat} {x1 : Int} {x9 : List S145} {x10 : List ByteArray} {x11 : Int} {x19 : List S113} {x20 : Int} {x21 : Int} {r : _} (h : impl_ScanSeg.l0 k x1 x9 x10 x11 x19 x20 x21 = some r) : ∃ m, k = m + 1 ∧ impl_ScanSeg.l0 (m + 1) x1 x9 x10 x11 x19 x20 x21 = some r := by
  cases k with
  | zero => simp [impl_ScanSeg.l0] at h
  | succ m => exact ⟨m, rfl, h⟩
set_option maxRecDepth 100000 in
set_option maxHeartbeats 4000000 in
theorem impl_ScanSeg.con (E : En) (hE : E = E0) {k : Nat} {a0 : ByteArray} {a1 : Int} {r1 : List S145} {r2 : List ByteArray} {r3 : Int} (H : impl_ScanSeg.f k a0 a1 = some (r1, r2, r3)) :
    Con Tryz.prog TBX 81 [.c (.str a0), .c (.int .i64 a1)] [] (.tup [.own 0, .own 1, .c (.int .i64 r3)]) [.row false 145 [.str, .int .i64, .int .i64, .int .i64] (E.e145 r1), .row false 9 [.str] (E.eS r2)] [] := by
  refine con_of Tryz.func81 rfl (by kernel_rfl) tabOk [20004, 20005] (Nat.le_of_ble_eq_true rfl) (fun F hF Q hQ hQn => ?_)
  simp only [impl_ScanSeg.f] at H
  (conv => cbv)
  repeat' first
    | replace H := s_ H
    | (rw [itn_iff] at H; obtain ⟨hc, H⟩ := H)
    | (rw [itn2_iff] at H; obtain ⟨hc, H⟩ := H)
    | ((with_reducible refine br_ hF (fun hb => ?_) (fun hb => ?_)) <;> ((try simp only [hF, hE] at hb); (try simp only [hs, vs] at hb); first | rw [if_pos hb] at H | rw [if_neg hb] at H | rw [if_nn hb] at H | replace H := i_ hb H | (simp only [hb, not_t, b_f, not_true_eq_false, not_false_eq_true, Bool.not_true, Bool.not_false, Bool.false_eq_true, if_true, if_false] at H) | skip) <;> (try (conv => cbv)))
    | (refine w_ hF ?_; (try (conv => cbv)))
    | ((with_reducible show Hd.call F 70 _ _ _); rw [bind_iff] at H; obtain ⟨⟨y1, y2⟩, hy, H⟩ := H; (try dsimp only at H); refine call_ hF (impl_batchesOf.con E hE hy) f_ f_ ?_; (try (conv => cbv)))
    | ((with_reducible show Hd.call F 165 _ _ _); rw [bind_iff] at H; obtain ⟨y, hy, H⟩ := H; (try dsimp only at H); refine call_ hF (impl_spotsOf.con E hE hy) f_ f_ ?_; (try (conv => cbv)))
    | ((with_reducible refine loop_ hF (fun n t => n ≤ k ∧ ∃ (x1 : Int) (x9 : List S145) (x10 : List ByteArray) (x11 : Int) (x19 : List S113) (x20 : Int) (x21 : Int), t = At 44 [(1, .c (.int .i64 x1)), (9, .own 20009), (10, .own 20010), (11, .c (.int .i64 x11)), (19, .c (.sl [.int .i64, .sl [.str, .str, .bool], .str, .int .i64] (E.e113 x19))), (20, .c (.int .i64 x20)), (21, .c (.int .i64 x21))] [(20009, .row false 145 [.str, .int .i64, .int .i64, .int .i64] (E.e145 x9)), (20010, .row false 9 [.str] (E.eS x10))] ∧ impl_ScanSeg.l0 n x1 x9 x10 x11 x19 x20 x21 = some (r1, r2, r3)) _ (head_ ⟨[1, 9, 10, 11, 19, 20, 21], [], [(9, 145), (10, 9)], []⟩ ⟨by omega, _, _, _, _, _, _, _, rfl, H⟩ (by cbv) f_ f_) (fun n0 t ht Q0 hN0 hX0 => ?_)); obtain ⟨hle0, x1, x9, x10, x11, x19, x20, x21, rfl, H⟩ := ht; obtain ⟨m, hm, H⟩ := impl_ScanSeg.l0_s H; simp only [impl_ScanSeg.l0] at H; (try (conv => cbv)))
    | ((with_reducible refine hN0 _ ⟨_, ?lt, head_ ⟨[1, 9, 10, 11, 19, 20, 21], [], [(9, 145), (10, 9)], []⟩ ⟨by omega, _, _, _, _, _, _, _, rfl, H⟩ (by cbv) f_ f_⟩); (case lt => omega))
    | ((with_reducible refine hX0 _ _ ne_ret ?_); (try (conv => cbv)))
    | ((with_reducible refine hX0 _ _ (ne_exit _) ?_); (try (conv => cbv)))
    | ((with_reducible first | refine end_ ⟨[4, 5, 6], [], [(4, 145), (5, 9)], []⟩ 44 hQ (by cbv) ?_ | refine end_ ⟨[4, 5, 6], [], [(4, 145), (5, 9)], []⟩ 44 hQn (by cbv) ?_); (with_reducible have hS := Option.some.inj H); clear hS; cases H; exact f_)
    | contradiction
theorem impl_DirOk.l0_s {k : Nat} {x0 : List S145} {x5 : List S145} {x6 : Int} {x7 : Int} {r : _} (h : impl_DirOk.l0 k x0 x5 x6 x7 = some r) : ∃ m, k = m + 1 ∧ impl_DirOk.l0 (m + 1) x0 x5 x6 x7 = some r := by
  cases k with
  | zero => simp [impl_DirOk.l0] at h
  | succ m => exact ⟨m, rfl, h⟩
set_option maxRecDepth 100000 in
set_option maxHeartbeats 4000000 in
theorem impl_DirOk.con (E : En) (hE : E = E0) {k : Nat} {l0 : List S145} {r : Bool} (H : impl_DirOk.f k l0 = some (r)) :
    Con Tryz.prog TBX 107 [.c (.sl [.str, .int .i64, .int .i64, .int .i64] (E.e145 l0))] [] (.c (.bool r)) [] [] := by
  refine con_of Tryz.func107 rfl (by kernel_rfl) tabOk [] (Nat.le_of_ble_eq_true rfl) (fun F hF Q hQ hQn => ?_)
  simp only [impl_DirOk.f] at H
  (conv => cbv)
  repeat' first
    | replace H := s_ H
    | (rw [itn_iff] at H; obtain ⟨hc, H⟩ := H)
    | (rw [itn2_iff] at H; obtain ⟨hc, H⟩ := H)
    | ((with_reducible refine br_ hF (fun hb => ?_) (fun hb => ?_)) <;> ((try simp only [hF, hE] at hb); (try simp only [hs, vs] at hb); first | rw [if_pos hb] at H | rw [if_neg hb] at H | rw [if_nn hb] at H | replace H := i_ hb H | (simp only [hb, not_t, b_f, not_true_eq_false, not_false_eq_true, Bool.not_true, Bool.not_false, Bool.false_eq_true, if_true, if_false] at H) | skip) <;> (try (conv => cbv)))
    | (refine w_ hF ?_; (try (conv => cbv)))
    | ((with_reducible show Hd.call F 144 _ _ _); rw [bind_iff] at H; obtain ⟨y, hy, H⟩ := H; (try dsimp only at H); refine call_ hF (impl_within.con E hE hy) f_ f_ ?_; (try (conv => cbv)))
    | ((with_reducible show Hd.call F 188 _ _ _); rw [bind_iff] at H; obtain ⟨y, hy, H⟩ := H; (try dsimp only at H); refine call_ hF (impl_keyOk.con E hE hy) f_ f_ ?_; (try (conv => cbv)))
    | ((with_reducible refine loop_ hF (fun n t => n ≤ k ∧ ∃ (x0 : List S145) (x5 : List S145) (x6 : Int) (x7 : Int), t = At 53 [(0, .c (.sl [.str, .int .i64, .int .i64, .int .i64] (E.e145 x0))), (5, .c (.sl [.str, .int .i64, .int .i64, .int .i64] (E.e145 x5))), (6, .c (.int .i64 x6)), (7, .c (.int .i64 x7))] [] ∧ impl_DirOk.l0 n x0 x5 x6 x7 = some (r)) _ (head_ ⟨[0, 5, 6, 7], [], [], []⟩ ⟨by omega, _, _, _, _, rfl, H⟩ (by cbv) f_ f_) (fun n0 t ht Q0 hN0 hX0 => ?_)); obtain ⟨hle0, x0, x5, x6, x7, rfl, H⟩ := ht; obtain ⟨m, hm, H⟩ := impl_DirOk.l0_s H; simp only [impl_DirOk.l0] at H; (try (conv => cbv)))
    | ((with_reducible refine hN0 _ ⟨_, ?lt, head_ ⟨[0, 5, 6, 7], [], [], []⟩ ⟨by omega, _, _, _, _, rfl, H⟩ (by cbv) f_ f_⟩); (case lt => omega))
    | ((with_reducible refine hX0 _ _ ne_ret ?_); (try (conv => cbv)))
    | ((with_reducible refine hX0 _ _ (ne_exit _) ?_); (try (conv => cbv)))
    | ((with_reducible first | refine end_ ⟨[2], [], [], []⟩ 53 hQ (by cbv) ?_ | refine end_ ⟨[2], [], [], []⟩ 53 hQn (by cbv) ?_); (with_reducible have hS := Option.some.inj H); clear hS; cases H; exact f_)
    | contradiction
set_option maxRecDepth 100000 in
set_option maxHeartbeats 4000000 in
theorem impl_DirMore_c1.con (E : En) (hE : E = E0) {a0_0 : ByteArray} {a0_1 : Int} {a0_2 : Int} {a0_3 : Int} {a1 : ByteArray} {r : Int} (H : impl_DirMore_c1.f a0_0 a0_1 a0_2 a0_3 a1 = some r) :
    Con Tryz.prog TBX 167 [.agg [.c (.str a0_0), .c (.int .i64 a0_1), .c (.int .i64 a0_2), .c (.int .i64 a0_3)], .c (.str a1)] [] (.c (.int .i64 r)) [] [] := by
  refine con_of Tryz.func167 rfl (by kernel_rfl) tabOkM [] (Nat.le_of_ble_eq_true rfl) (fun F hF Q hQ hQn => ?_)
  simp only [impl_DirMore_c1.f] at H
  (conv => cbv)
  repeat' first
    | replace H := s_ H
    | (rw [itn_iff] at H; obtain ⟨hc, H⟩ := H)
    | (rw [itn2_iff] at H; obtain ⟨hc, H⟩ := H)
    | ((with_reducible refine br_ hF (fun hb => ?_) (fun hb => ?_)) <;> ((try simp only [hF, hE] at hb); (try simp only [hs, vs] at hb); first | rw [if_pos hb] at H | rw [if_neg hb] at H | rw [if_nn hb] at H | replace H := i_ hb H | (simp only [hb, not_t, b_f, not_true_eq_false, not_false_eq_true, Bool.not_true, Bool.not_false, Bool.false_eq_true, if_true, if_false] at H) | skip) <;> (try (conv => cbv)))
    | (refine w_ hF ?_; (try (conv => cbv)))
    | ((with_reducible show Hd.call F 168 _ _ _); rw [bind_iff] at H; obtain ⟨y, hy, H⟩ := H; (try dsimp only at H); refine call_ hF (strings_Compare.con E hE hy) f_ f_ ?_; (try (conv => cbv)))
    | ((with_reducible first | refine end_ ⟨[4], [], [], []⟩ 9 hQ (by cbv) ?_ | refine end_ ⟨[4], [], [], []⟩ 9 hQn (by cbv) ?_); (with_reducible have hS := Option.some.inj H); clear hS; cases H; exact f_)
    | contradiction
theorem slices_BinarySearchFunc_impl_Spot_impl_Spot_string.l0_s {k : Nat} {x0 : List S145} {x1 : ByteArray} {x8 : Int} {x9 : Int} {x10 : Int} {r : _} (h : slices_BinarySearchFunc_impl_Spot_impl_Spot_string.l0 k x0 x1 x8 x9 x10 = some r) : ∃ m, k = m + 1 ∧ slices_BinarySearchFunc_impl_Spot_impl_Spot_string.l0 (m + 1) x0 x1 x8 x9 x10 = some r := by
  cases k with
  | zero => simp [slices_BinarySearchFunc_impl_Spot_impl_Spot_string.l0] at h
  | succ m => exact ⟨m, rfl, h⟩
set_option maxRecDepth 100000 in
set_option maxHeartbeats 4000000 in
theorem slices_BinarySearchFunc_impl_Spot_impl_Spot_string.con (E : En) (hE : E = E0) {k : Nat} {l0 : List S145} {a1 : ByteArray} {r1 : Int} {r2 : Bool} (H : slices_BinarySearchFunc_impl_Spot_impl_Spot_string.f k l0 a1 = some (r1, r2)) :
    Con Tryz.prog TBX 166 [.c (.sl [.str, .int .i64, .int .i64, .int .i64] (E.e145 l0)), .c (.str a1), .c (.fn 167)] [] (.tup [.c (.int .i64 r1), .c (.bool r2)]) [] [] := by
  refine con_of Tryz.func166 rfl (by kernel_rfl) tabOkM [] (Nat.le_of_ble_eq_true rfl) (fun F hF Q hQ hQn => ?_)
  simp only [slices_BinarySearchFunc_impl_Spot_impl_Spot_string.f] at H
  (conv => cbv)
  repeat' first
    | replace H := s_ H
    | (rw [itn_iff] at H; obtain ⟨hc, H⟩ := H)
    | (rw [itn2_iff] at H; obtain ⟨hc, H⟩ := H)
    | ((with_reducible refine br_ hF (fun hb => ?_) (fun hb => ?_)) <;> ((try simp only [hF, hE] at hb); (try simp only [hs, vs] at hb); first | rw [if_pos hb] at H | rw [if_neg hb] at H | rw [if_nn hb] at H | replace H := i_ hb H | (simp only [hb, not_t, b_f, not_true_eq_false, not_false_eq_true, Bool.not_true, Bool.not_false, Bool.false_eq_true, if_true, if_false] at H) | skip) <;> (try (conv => cbv)))
    | (refine w_ hF ?_; (try (conv => cbv)))
    | ((with_reducible show Hd.call F 167 _ _ _); rw [bind_iff] at H; obtain ⟨y, hy, H⟩ := H; (try dsimp only at H); refine call_ hF (impl_DirMore_c1.con E hE hy) f_ f_ ?_; (try (conv => cbv)))
    | ((with_reducible refine loop_ hF (fun n t => n ≤ k ∧ ∃ (x0 : List S145) (x1 : ByteArray) (x8 : Int) (x9 : Int) (x10 : Int), t = At 49 [(0, .c (.sl [.str, .int .i64, .int .i64, .int .i64] (E.e145 x0))), (1, .c (.str x1)), (2, .c (.fn 167)), (8, .c (.int .i64 x8)), (9, .c (.int .i64 x9)), (10, .c (.int .i64 x10))] [] ∧ slices_BinarySearchFunc_impl_Spot_impl_Spot_string.l0 n x0 x1 x8 x9 x10 = some (r1, r2)) _ (head_ ⟨[0, 1, 2, 8, 9, 10], [], [], []⟩ ⟨by omega, _, _, _, _, _, rfl, H⟩ (by cbv) f_ f_) (fun n0 t ht Q0 hN0 hX0 => ?_)); obtain ⟨hle0, x0, x1, x8, x9, x10, rfl, H⟩ := ht; obtain ⟨m, hm, H⟩ := slices_BinarySearchFunc_impl_Spot_impl_Spot_string.l0_s H; simp only [slices_BinarySearchFunc_impl_Spot_impl_Spot_string.l0] at H; (try (conv => cbv)))
    | ((with_reducible refine hN0 _ ⟨_, ?lt, head_ ⟨[0, 1, 2, 8, 9, 10], [], [], []⟩ ⟨by omega, _, _, _, _, _, rfl, H⟩ (by cbv) f_ f_⟩); (case lt => omega))
    | ((with_reducible refine hX0 _ _ ne_ret ?_); (try (conv => cbv)))
    | ((with_reducible refine hX0 _ _ (ne_exit _) ?_); (try (conv => cbv)))
    | ((with_reducible first | refine end_ ⟨[6, 7], [], [], []⟩ 49 hQ (by cbv) ?_ | refine end_ ⟨[6, 7], [], [], []⟩ 49 hQn (by cbv) ?_); (with_reducible have hS := Option.some.inj H); clear hS; cases H; exact f_)
    | contradiction
theorem impl_DirMore.l0_s {k : Nat} {x6 : List S145} {x16 : List S145} {x17 : Int} {x18 : Int} {r : _} (h : impl_DirMore.l0 k x6 x16 x17 x18 = some r) : ∃ m, k = m + 1 ∧ impl_DirMore.l0 (m + 1) x6 x16 x17 x18 = some r := by
  cases k with
  | zero => simp [impl_DirMore.l0] at h
  | succ m => exact ⟨m, rfl, h⟩
set_option maxRecDepth 100000 in
set_option maxHeartbeats 4000000 in
theorem impl_DirMore.con (E : En) (hE : E = E0) {k : Nat} {l0 : List S145} {l1 : List S145} {r1 : List S145} {r2 : Bool} (H : impl_DirMore.f k l0 l1 = some (r1, r2)) :
    Con Tryz.prog TBX 82 [.c (.sl [.str, .int .i64, .int .i64, .int .i64] (E.e145 l0)), .c (.sl [.str, .int .i64, .int .i64, .int .i64] (E.e145 l1))] [] (.tup [.own 0, .c (.bool r2)]) [.row false 145 [.str, .int .i64, .int .i64, .int .i64] (E.e145 r1)] [] := by
  refine con_of Tryz.func82 rfl (by kernel_rfl) tabOkM [20004] (Nat.le_of_ble_eq_true rfl) (fun F hF Q hQ hQn => ?_)
  simp only [impl_DirMore.f] at H
  (conv => cbv)
  repeat' first
    | replace H := s_ H
    | (rw [itn_iff] at H; obtain ⟨hc, H⟩ := H)
    | (rw [itn2_iff] at H; obtain ⟨hc, H⟩ := H)
    | ((with_reducible refine br_ hF (fun hb => ?_) (fun hb => ?_)) <;> ((try simp only [hF, hE] at hb); (try simp only [hs, vs] at hb); first | rw [if_pos hb] at H | rw [if_neg hb] at H | rw [if_nn hb] at H | replace H := i_ hb H | (simp only [hb, not_t, b_f, not_true_eq_false, not_false_eq_true, Bool.not_true, Bool.not_false, Bool.false_eq_true, if_true, if_false] at H) | skip) <;> (try (conv => cbv)))
    | (refine w_ hF ?_; (try (conv => cbv)))
    | ((with_reducible show Hd.call F 107 _ _ _); rw [bind_iff] at H; obtain ⟨y, hy, H⟩ := H; (try dsimp only at H); refine call_ hF (impl_DirOk.con E hE hy) f_ f_ ?_; (try (conv => cbv)))
    | ((with_reducible show Hd.call F 166 _ _ _); rw [bind_iff] at H; obtain ⟨⟨y1, y2⟩, hy, H⟩ := H; (try dsimp only at H); refine call_ hF (slices_BinarySearchFunc_impl_Spot_impl_Spot_string.con E hE hy) f_ f_ ?_; (try (conv => cbv)))
    | ((with_reducible show Hd.call F 169 _ _ _); rw [bind_iff] at H; obtain ⟨y, hy, H⟩ := H; (try dsimp only at H); refine call_ hF (slices_Delete_impl_Spot_impl_Spot.con E hE hy) f_ f_ ?_; (try (conv => cbv)))
    | ((with_reducible show Hd.call F 170 _ _ _); rw [bind_iff] at H; obtain ⟨⟨y1, y2⟩, hy, H⟩ := H; (try dsimp only at H); refine call_ hF (slices_Insert_impl_Spot_impl_Spot.con E hE hy) f_ f_ ?_; (try (conv => cbv)))
    | ((with_reducible refine loop_ hF (fun n t => n ≤ k ∧ ∃ (x6 : List S145) (x16 : List S145) (x17 : Int) (x18 : Int), t = At 61 [(6, .own 20006), (16, .c (.sl [.str, .int .i64, .int .i64, .int .i64] (E.e145 x16))), (17, .c (.int .i64 x17)), (18, .c (.int .i64 x18))] [(20006, .row false 145 [.str, .int .i64, .int .i64, .int .i64] (E.e145 x6))] ∧ impl_DirMore.l0 n x6 x16 x17 x18 = some (r1, r2)) _ (head_ ⟨[6, 16, 17, 18], [], [(6, 145)], []⟩ ⟨by omega, _, _, _, _, rfl, H⟩ (by cbv) f_ f_) (fun n0 t ht Q0 hN0 hX0 => ?_)); obtain ⟨hle0, x6, x16, x17, x18, rfl, H⟩ := ht; obtain ⟨m, hm, H⟩ := impl_DirMore.l0_s H; simp only [impl_DirMore.l0] at H; (try (conv => cbv)))
    | ((with_reducible refine hN0 _ ⟨_, ?lt, head_ ⟨[6, 16, 17, 18], [], [(6, 145)], []⟩ ⟨by omega, _, _, _, _, rfl, H⟩ (by cbv) f_ f_⟩); (case lt => omega))
    | ((with_reducible refine hX0 _ _ ne_ret ?_); (try (conv => cbv)))
    | ((with_reducible refine hX0 _ _ (ne_exit _) ?_); (try (conv => cbv)))
    | ((with_reducible first | refine end_ ⟨[4, 5], [], [(4, 145)], []⟩ 61 hQ (by cbv) ?_ | refine end_ ⟨[4, 5], [], [(4, 145)], []⟩ 61 hQn (by cbv) ?_); (with_reducible have hS := Option.some.inj H); clear hS; cases H; exact f_)
    | contradiction
end Go.Ev

