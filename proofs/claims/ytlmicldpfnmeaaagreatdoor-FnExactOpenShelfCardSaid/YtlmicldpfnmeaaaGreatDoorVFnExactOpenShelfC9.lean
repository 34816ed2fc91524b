/- Contracts of the Go functions that this law reaches: what each call returns, by its plain function. No conditions but those that each statement names. By this repo's programs; comments are taken out. -/
import Derived.Test.YtlmicldpfnmeaaaGreatDoorVFnExactOpenShelfD
import Derived.Test.YtlmicldpfnmeaaaGreatDoorVFnExactOpenShelfC6
import Derived.Test.YtlmicldpfnmeaaaGreatDoorVFnExactOpenShelfC7
import Derived.Test.YtlmicldpfnmeaaaGreatDoorVFnExactOpenShelfC8
set_option linter.all false
namespace Go.Ev
open Go.RowKit Go.Proofs Go.Proofs.YtlmicldpfnmeaaaGreatDoorW.PrintWords Go.Proofs.YtlmicldpfnmeaaaGreatDoorW.PrintLast Go.Proofs.YtlmicldpfnmeaaaGreatDoorW.PrintMore
set_option maxRecDepth 100000 in
set_option maxHeartbeats 4000000 in
theorem impl_isSegName.con (E : En) (hE : E = E0) {a0 : ByteArray} {r : Bool} (H : impl_isSegName.f a0 = some r) :
    Con Tryz.prog TBX 162 [.c (.str a0)] [] (.c (.bool r)) [] [] := by
  refine con_of Tryz.func162 rfl (by kernel_rfl) tabOkM [] (Nat.le_of_ble_eq_true rfl) (fun F hF Q hQ hQn => ?_)
  simp only [impl_isSegName.f] at H
  (conv => cbv)
  repeat' first
    | replace H := s_ H
    | (rw [itn_iff] at H; obtain ⟨hc, H⟩ := H)
    | (rw [itn2_iff] at H; obtain ⟨hc, H⟩ := H)
    | ((with_reducible refine br_ hF (fun hb => ?_) (fun hb => ?_)) <;> ((try simp only [hF, hE] at hb); (try simp only [hs, vs] at hb); first | rw [if_pos hb] at H | rw [if_neg hb] at H | rw [if_nn hb] at H | replace H := i_ hb H | (simp only [hb, not_t, b_f, not_true_eq_false, not_false_eq_true, Bool.not_true, Bool.not_false, Bool.false_eq_true, if_true, if_false] at H) | skip) <;> (try (conv => cbv)))
    | (refine w_ hF ?_; (try (conv => cbv)))
    | ((with_reducible show Hd.call F 210 _ _ _); rw [bind_iff] at H; obtain ⟨⟨y1, y2⟩, hy, H⟩ := H; (try dsimp only at H); refine call_ hF (strings_CutPrefix.con E hE hy) f_ f_ ?_; (try (conv => cbv)))
    | ((with_reducible show Hd.call F 211 _ _ _); rw [bind_iff] at H; obtain ⟨⟨y1, y2⟩, hy, H⟩ := H; (try dsimp only at H); refine call_ hF (impl_ReadDecimal.con E hE hy) f_ f_ ?_; (try (conv => cbv)))
    | ((with_reducible show Hd.call F 69 _ _ _); rw [bind_iff] at H; obtain ⟨y, hy, H⟩ := H; (try dsimp only at H); refine call_ hF (impl_SegName.con E hE hy) f_ f_ ?_; (try (conv => cbv)))
    | ((with_reducible first | refine end_ ⟨[2], [], [], []⟩ 27 hQ (by cbv) ?_ | refine end_ ⟨[2], [], [], []⟩ 27 hQn (by cbv) ?_); (with_reducible have hS := Option.some.inj H); clear hS; cases H; exact f_)
    | contradiction
set_option maxRecDepth 100000 in
set_option maxHeartbeats 4000000 in
theorem impl_cleaning_c1.con (E : En) (hE : E = E0) {a0 : Int} {s1_0 : ByteArray} {s1_1 : ByteArray} {r1 : Bool} {r2 : ByteArray} {r3 : ByteArray} (H : impl_cleaning_c1.f a0 s1_0 s1_1 = some (r1, r2, r3)) :
    Con Tryz.prog TBX 164 [.c (.int .i64 a0), .ptr 10000 0] [.box [.c (.str s1_0), .c (.str s1_1)]] (.c (.bool r1)) [] [.box [.c (.str r2), .c (.str r3)]] := by
  refine con_of Tryz.func164 rfl (by kernel_rfl) tabOkM [] (Nat.le_of_ble_eq_true rfl) (fun F hF Q hQ hQn => ?_)
  simp only [impl_cleaning_c1.f] at H
  (conv => cbv)
  repeat' first
    | replace H := s_ H
    | (rw [itn_iff] at H; obtain ⟨hc, H⟩ := H)
    | (rw [itn2_iff] at H; obtain ⟨hc, H⟩ := H)
    | ((with_reducible refine br_ hF (fun hb => ?_) (fun hb => ?_)) <;> ((try simp only [hF, hE] at hb); (try simp only [hs, vs] at hb); first | rw [if_pos hb] at H | rw [if_neg hb] at H | rw [if_nn hb] at H | replace H := i_ hb H | (simp only [hb, not_t, b_f, not_true_eq_false, not_false_eq_true, Bool.not_true, Bool.not_false, Bool.false_eq_true, if_true, if_false] at H) | skip) <;> (try (conv => cbv)))
    | (refine w_ hF ?_; (try (conv => cbv)))
    | ((with_reducible show Hd.call F 69 _ _ _); rw [bind_iff] at H; obtain ⟨y, hy, H⟩ := H; (try dsimp only at H); refine call_ hF (impl_SegName.con E hE hy) f_ f_ ?_; (try (conv => cbv)))
    | ((with_reducible first | refine end_ ⟨[3], [], [], []⟩ 9 hQ (by cbv) ?_ | refine end_ ⟨[3], [], [], []⟩ 9 hQn (by cbv) ?_); (with_reducible have hS := Option.some.inj H); clear hS; cases H; exact f_)
    | contradiction
theorem slices_IndexFunc_int_int.l0_s {k : Nat} {x0 : List Int} {x7 : Int} {x8 : Int} {y10000_0 : ByteArray} {y10000_1 : ByteArray} {r : _} (h : slices_IndexFunc_int_int.l0 k x0 x7 x8 y10000_0 y10000_1 = some r) : ∃ m, k = m + 1 ∧ slices_IndexFunc_int_int.l0 (m + 1) x0 x7 x8 y10000_0 y10000_1 = some r := by
  cases k with
  | zero => simp [slices_IndexFunc_int_int.l0] at h
  | succ m => exact ⟨m, rfl, h⟩
set_option maxRecDepth 100000 in
set_option maxHeartbeats 4000000 in
theorem slices_IndexFunc_int_int.con (E : En) (hE : E = E0) {k : Nat} {l0 : List Int} {s1_0_0 : ByteArray} {s1_0_1 : ByteArray} {r1 : Int} {r2 : ByteArray} {r3 : ByteArray} (H : slices_IndexFunc_int_int.f k l0 s1_0_0 s1_0_1 = some (r1, r2, r3)) :
    Con Tryz.prog TBX 212 [.c (.sl [.int .i64] (E.eI .i64 l0)), .clo 164 [.ptr 10000 0]] [.box [.c (.str s1_0_0), .c (.str s1_0_1)]] (.c (.int .i64 r1)) [] [.box [.c (.str r2), .c (.str r3)]] := by
  refine con_of Tryz.func212 rfl (by kernel_rfl) tabOkM [] (Nat.le_of_ble_eq_true rfl) (fun F hF Q hQ hQn => ?_)
  simp only [slices_IndexFunc_int_int.f] at H
  (conv => cbv)
  repeat' first
    | replace H := s_ H
    | (rw [itn_iff] at H; obtain ⟨hc, H⟩ := H)
    | (rw [itn2_iff] at H; obtain ⟨hc, H⟩ := H)
    | ((with_reducible refine br_ hF (fun hb => ?_) (fun hb => ?_)) <;> ((try simp only [hF, hE] at hb); (try simp only [hs, vs] at hb); first | rw [if_pos hb] at H | rw [if_neg hb] at H | rw [if_nn hb] at H | replace H := i_ hb H | (simp only [hb, not_t, b_f, not_true_eq_false, not_false_eq_true, Bool.not_true, Bool.not_false, Bool.false_eq_true, if_true, if_false] at H) | skip) <;> (try (conv => cbv)))
    | (refine w_ hF ?_; (try (conv => cbv)))
    | ((with_reducible show Hd.call F 164 _ _ _); rw [bind_iff] at H; obtain ⟨⟨y1, y2, y3⟩, hy, H⟩ := H; (try dsimp only at H); refine call_ hF (impl_cleaning_c1.con E hE hy) f_ f_ ?_; (try (conv => cbv)))
    | ((with_reducible refine loop_ hF (fun n t => n ≤ k ∧ ∃ (x0 : List Int) (x7 : Int) (x8 : Int) (y10000_0 : ByteArray) (y10000_1 : ByteArray), t = At 19 [(0, .c (.sl [.int .i64] (E.eI .i64 x0))), (1, .clo 164 [.ptr 10000 0]), (7, .c (.int .i64 x7)), (8, .c (.int .i64 x8))] [(10000, .box [.c (.str y10000_0), .c (.str y10000_1)])] ∧ slices_IndexFunc_int_int.l0 n x0 x7 x8 y10000_0 y10000_1 = some (r1, r2, r3)) _ (head_ ⟨[0, 1, 7, 8], [], [], []⟩ ⟨by omega, _, _, _, _, _, rfl, H⟩ (by cbv) f_ f_) (fun n0 t ht Q0 hN0 hX0 => ?_)); obtain ⟨hle0, x0, x7, x8, y10000_0, y10000_1, rfl, H⟩ := ht; obtain ⟨m, hm, H⟩ := slices_IndexFunc_int_int.l0_s H; simp only [slices_IndexFunc_int_int.l0] at H; (try (conv => cbv)))
    | ((with_reducible refine hN0 _ ⟨_, ?lt, head_ ⟨[0, 1, 7, 8], [], [], []⟩ ⟨by omega, _, _, _, _, _, rfl, H⟩ (by cbv) f_ f_⟩); (case lt => omega))
    | ((with_reducible refine hX0 _ _ ne_ret ?_); (try (conv => cbv)))
    | ((with_reducible refine hX0 _ _ (ne_exit _) ?_); (try (conv => cbv)))
    | ((with_reducible first | refine end_ ⟨[4], [], [], []⟩ 19 hQ (by cbv) ?_ | refine end_ ⟨[4], [], [], []⟩ 19 hQn (by cbv) ?_); (with_reducible have hS := Option.some.inj H); clear hS; cases H; exact f_)
    | contradiction
set_option maxRecDepth 100000 in
set_option maxHeartbeats 4000000 in
theorem slices_ContainsFunc_int_int.con (E : En) (hE : E = E0) {k : Nat} {l0 : List Int} {s1_0_0 : ByteArray} {s1_0_1 : ByteArray} {r1 : Bool} {r2 : ByteArray} {r3 : ByteArray} (H : slices_ContainsFunc_int_int.f k l0 s1_0_0 s1_0_1 = some (r1, r2, r3)) :
    Con Tryz.prog TBX 163 [.c (.sl [.int .i64] (E.eI .i64 l0)), .clo 164 [.ptr 10000 0]] [.box [.c (.str s1_0_0), .c (.str s1_0_1)]] (.c (.bool r1)) [] [.box [.c (.str r2), .c (.str r3)]] := by
  refine con_of Tryz.func163 rfl (by kernel_rfl) tabOkM [] (Nat.le_of_ble_eq_true rfl) (fun F hF Q hQ hQn => ?_)
  simp only [slices_ContainsFunc_int_int.f] at H
  (conv => cbv)
  repeat' first
    | replace H := s_ H
    | (rw [itn_iff] at H; obtain ⟨hc, H⟩ := H)
    | (rw [itn2_iff] at H; obtain ⟨hc, H⟩ := H)
    | ((with_reducible refine br_ hF (fun hb => ?_) (fun hb => ?_)) <;> ((try simp only [hF, hE] at hb); (try simp only [hs, vs] at hb); first | rw [if_pos hb] at H | rw [if_neg hb] at H | rw [if_nn hb] at H | replace H := i_ hb H | (simp only [hb, not_t, b_f, not_true_eq_false, not_false_eq_true, Bool.not_true, Bool.not_false, Bool.false_eq_true, if_true, if_false] at H) | skip) <;> (try (conv => cbv)))
    | (refine w_ hF ?_; (try (conv => cbv)))
    | ((with_reducible show Hd.call F 212 _ _ _); rw [bind_iff] at H; obtain ⟨⟨y1, y2, y3⟩, hy, H⟩ := H; (try dsimp only at H); refine call_ hF (slices_IndexFunc_int_int.con E hE hy) f_ f_ ?_; (try (conv => cbv)))
    | ((with_reducible first | refine end_ ⟨[4], [], [], []⟩ 9 hQ (by cbv) ?_ | refine end_ ⟨[4], [], [], []⟩ 9 hQn (by cbv) ?_); (with_reducible have hS := Option.some.inj H); clear hS; cases H; exact f_)
    | contradiction
theorem impl_cleaning.l0_s {k : Nat} {x5 : List S119} {x21 : List S122} {x22 : Int} {x23 : Int} {y3_0 : List Int} {y3_1 : Int} {y3_2 : Int} {y3_3 : Int} {y3_4 : List Int} {r : _} (h : impl_cleaning.l0 k x5 x21 x22 x23 y3_0 y3_1 y3_2 y3_3 y3_4 = some r) : ∃ m, k = m + 1 ∧ impl_cleaning.l0 (m + 1) x5 x21 x22 x23 y3_0 y3_1 y3_2 y3_3 y3_4 = some r := by
  cases k with
  | zero => simp [impl_cleaning.l0] at h
  | succ m => exact ⟨m, rfl, h⟩
set_option maxRecDepth 100000 in
set_option maxHeartbeats 4000000 in
theorem impl_cleaning.con (E : En) (hE : E = E0) {k : Nat} {l0_0 : List S122} {l1_0 : List Int} {a1_1 : Int} {a1_2 : Int} {a1_3 : Int} {l1_4 : List Int} {r : List S119} (H : impl_cleaning.f k l0_0 l1_0 a1_1 a1_2 a1_3 l1_4 = some r) :
    Con Tryz.prog TBX 80 [.agg [.c (.sl [.str, .str] (E.e122 l0_0))], .agg [.c (.sl [.int .i64] (E.eI .i64 l1_0)), .c (.int .i64 a1_1), .c (.int .i64 a1_2), .c (.int .i64 a1_3), .c (.sl [.int .i64] (E.eI .i64 l1_4))]] [] (.own 0) [.row false 119 [.int .i64, .str, .str, .str] (E.e119 r)] [] := by
  refine con_of Tryz.func80 rfl (by kernel_rfl) tabOkM [20004] (Nat.le_of_ble_eq_true rfl) (fun F hF Q hQ hQn => ?_)
  simp only [impl_cleaning.f] at H
  (conv => cbv)
  repeat' first
    | replace H := s_ H
    | (rw [itn_iff] at H; obtain ⟨hc, H⟩ := H)
    | (rw [itn2_iff] at H; obtain ⟨hc, H⟩ := H)
    | ((with_reducible refine br_ hF (fun hb => ?_) (fun hb => ?_)) <;> ((try simp only [hF, hE] at hb); (try simp only [hs, vs] at hb); first | rw [if_pos hb] at H | rw [if_neg hb] at H | rw [if_nn hb] at H | replace H := i_ hb H | (simp only [hb, not_t, b_f, not_true_eq_false, not_false_eq_true, Bool.not_true, Bool.not_false, Bool.false_eq_true, if_true, if_false] at H) | skip) <;> (try (conv => cbv)))
    | (refine w_ hF ?_; (try (conv => cbv)))
    | ((with_reducible show Hd.call F 68 _ _ _); rw [bind_iff] at H; obtain ⟨⟨y1, y2⟩, hy, H⟩ := H; (try dsimp only at H); refine call_ hF (impl_FileAt.con E hE hy) f_ f_ ?_; (try (conv => cbv)))
    | ((with_reducible show Hd.call F 162 _ _ _); rw [bind_iff] at H; obtain ⟨y, hy, H⟩ := H; (try dsimp only at H); refine call_ hF (impl_isSegName.con E hE hy) f_ f_ ?_; (try (conv => cbv)))
    | ((with_reducible show Hd.call F 163 _ _ _); rw [bind_iff] at H; obtain ⟨⟨y1, y2, y3⟩, hy, H⟩ := H; (try dsimp only at H); refine call_ hF (slices_ContainsFunc_int_int.con E hE hy) f_ f_ ?_; (try (conv => cbv)))
    | ((with_reducible refine loop_ hF (fun n t => n ≤ k ∧ ∃ (x5 : List S119) (x21 : List S122) (x22 : Int) (x23 : Int) (y3_0 : List Int) (y3_1 : Int) (y3_2 : Int) (y3_3 : Int) (y3_4 : List Int), t = At 45 [(3, .ptr 3 0), (5, .own 20005), (21, .c (.sl [.str, .str] (E.e122 x21))), (22, .c (.int .i64 x22)), (23, .c (.int .i64 x23))] [(3, .box [.c (.sl [.int .i64] (E.eI .i64 y3_0)), .c (.int .i64 y3_1), .c (.int .i64 y3_2), .c (.int .i64 y3_3), .c (.sl [.int .i64] (E.eI .i64 y3_4))]), (20005, .row false 119 [.int .i64, .str, .str, .str] (E.e119 x5))] ∧ impl_cleaning.l0 n x5 x21 x22 x23 y3_0 y3_1 y3_2 y3_3 y3_4 = some r) _ (head_ ⟨[3, 5, 21, 22, 23], [3], [(5, 119)], []⟩ ⟨by omega, _, _, _, _, _, _, _, _, _, rfl, H⟩ (by cbv) f_ f_) (fun n0 t ht Q0 hN0 hX0 => ?_)); obtain ⟨hle0, x5, x21, x22, x23, y3_0, y3_1, y3_2, y3_3, y3_4, rfl, H⟩ := ht; obtain ⟨m, hm, H⟩ := impl_cleaning.l0_s H; simp only [impl_cleaning.l0] at H; (try (conv => cbv)))
    | ((with_reducible refine hN0 _ ⟨_, ?lt, head_ ⟨[3, 5, 21, 22, 23], [3], [(5, 119)], []⟩ ⟨by omega, _, _, _, _, _, _, _, _, _, rfl, H⟩ (by cbv) f_ f_⟩); (case lt => omega))
    | ((with_reducible refine hX0 _ _ ne_ret ?_); (try (conv => cbv)))
    | ((with_reducible refine hX0 _ _ (ne_exit _) ?_); (try (conv => cbv)))
    | ((with_reducible first | refine end_ ⟨[4], [], [(4, 119)], []⟩ 45 hQ (by cbv) ?_ | refine end_ ⟨[4], [], [(4, 119)], []⟩ 45 hQn (by cbv) ?_); (with_reducible have hS := Option.some.inj H); clear hS; cases H; exact f_)
    | contradiction
set_option maxRecDepth 100000 in
set_option maxHeartbeats 4000000 in
theorem impl_Frame.con (E : En) (hE : E = E0) {k : Nat} {a0 : ByteArray} {r1 : ByteArray} {r2 : Bool} (H : impl_Frame.f k a0 = some (r1, r2)) :
    Con Tryz.prog TBX 100 [.c (.str a0)] [] (.tup [.c (.str r1), .c (.bool r2)]) [] [] := by
  refine con_of Tryz.func100 rfl (by kernel_rfl) tabOk [] (Nat.le_of_ble_eq_true rfl) (fun F hF Q hQ hQn => ?_)
  simp only [impl_Frame.f] at H
  (conv => cbv)
  repeat' first
    | replace H := s_ H
    | (rw [itn_iff] at H; obtain ⟨hc, H⟩ := H)
    | (rw [itn2_iff] at H; obtain ⟨hc, H⟩ := H)
    | ((with_reducible refine br_ hF (fun hb => ?_) (fun hb => ?_)) <;> ((try simp only [hF, hE] at hb); (try simp only [hs, vs] at hb); first | rw [if_pos hb] at H | rw [if_neg hb] at H | rw [if_nn hb] at H | replace H := i_ hb H | (simp only [hb, not_t, b_f, not_true_eq_false, not_false_eq_true, Bool.not_true, Bool.not_false, Bool.false_eq_true, if_true, if_false] at H) | skip) <;> (try (conv => cbv)))
    | (refine w_ hF ?_; (try (conv => cbv)))
    | ((with_reducible show Hd.call F 144 _ _ _); rw [bind_iff] at H; obtain ⟨y, hy, H⟩ := H; (try dsimp only at H); refine call_ hF (impl_within.con E hE hy) f_ f_ ?_; (try (conv => cbv)))
    | ((with_reducible show Hd.call F 183 _ _ _); rw [bind_iff] at H; obtain ⟨⟨y1, y2⟩, hy, H⟩ := H; (try dsimp only at H); refine call_ hF (impl_VarText.con E hE hy) f_ f_ ?_; (try (conv => cbv)))
    | ((with_reducible show Hd.call F 184 _ _ _); rw [bind_iff] at H; obtain ⟨y, hy, H⟩ := H; (try dsimp only at H); refine call_ hF (impl_SumOf.con E hE hy) f_ f_ ?_; (try (conv => cbv)))
    | ((with_reducible first | refine end_ ⟨[2, 3], [], [], []⟩ 36 hQ (by cbv) ?_ | refine end_ ⟨[2, 3], [], [], []⟩ 36 hQn (by cbv) ?_); (with_reducible have hS := Option.some.inj H); clear hS; cases H; exact f_)
    | contradiction
theorem impl_Unframe.l0_s {k : Nat} {x0 : ByteArray} {x4 : List ByteArray} {x5 : Int} {r : _} (h : impl_Unframe.l0 k x0 x4 x5 = some r) : ∃ m, k = m + 1 ∧ impl_Unframe.l0 (m + 1) x0 x4 x5 = some r := by
  cases k with
  | zero => simp [impl_Unframe.l0] at h
  | succ m => exact ⟨m, rfl, h⟩
theorem impl_Unframe.j1_s {k : Nat} {x0 : ByteArray} {x4 : List ByteArray} {x5 : Int} {x6 : Int} {x7 : Int} {x32 : Bool} {r : _} (h : impl_Unframe.j1 k x0 x4 x5 x6 x7 x32 = some r) : ∃ m, k = m + 1 ∧ impl_Unframe.j1 (m + 1) x0 x4 x5 x6 x7 x32 = some r := by
  cases k with
  | zero => simp [impl_Unframe.j1] at h
  | succ m => exact ⟨m, rfl, h⟩
theorem impl_Unframe.j1_i {k : Nat} {x0 : ByteArray} {x4 : List ByteArray} {x5 : Int} {x6 : Int} {x7 : Int} {x32 : Bool} {r : _} : (impl_Unframe.j1 k x0 x4 x5 x6 x7 x32 = some r) = (∃ m, k = m + 1 ∧ impl_Unframe.j1 (m + 1) x0 x4 x5 x6 x7 x32 = some r) := propext ⟨impl_Unframe.j1_s, fun ⟨m, h, h2⟩ => by rw [h]; exact h2⟩
set_option maxRecDepth 100000 in
set_option maxHeartbeats 4000000 in
theorem impl_Unframe.con (E : En) (hE : E = E0) {k : Nat} {a0 : ByteArray} {r1 : List ByteArray} {r2 : Int} (H : impl_Unframe.f k a0 = some (r1, r2)) :
    Con Tryz.prog TBX 146 [.c (.str a0)] [] (.tup [.own 0, .c (.int .i64 r2)]) [.row false 9 [.str] (E.eS r1)] [] := by
  refine con_of Tryz.func146 rfl (by kernel_rfl) tabOk [20002] (Nat.le_of_ble_eq_true rfl) (fun F hF Q hQ hQn => ?_)
  simp only [impl_Unframe.f] at H
  (conv => cbv)
  repeat' first
    | (rw [impl_Unframe.j1_i] at H; obtain ⟨m, hm, H⟩ := H; simp only [impl_Unframe.j1] at H; (try simp only [decide_eq_true_eq, Bool.false_eq_true, if_false, if_true] at H))
    | replace H := s_ H
    | (rw [itn_iff] at H; obtain ⟨hc, H⟩ := H)
    | (rw [itn2_iff] at H; obtain ⟨hc, H⟩ := H)
    | ((with_reducible refine br_ hF (fun hb => ?_) (fun hb => ?_)) <;> ((try simp only [hF, hE] at hb); (try simp only [hs, vs] at hb); first | rw [if_pos hb] at H | rw [if_neg hb] at H | rw [if_nn hb] at H | replace H := i_ hb H | (simp only [hb, not_t, b_f, not_true_eq_false, not_false_eq_true, Bool.not_true, Bool.not_false, Bool.false_eq_true, if_true, if_false] at H) | skip) <;> (try (conv => cbv)))
    | (refine w_ hF ?_; (try (conv => cbv)))
    | ((with_reducible show Hd.call F 100 _ _ _); rw [bind_iff] at H; obtain ⟨⟨y1, y2⟩, hy, H⟩ := H; (try dsimp only at H); refine call_ hF (impl_Frame.con E hE hy) f_ f_ ?_; (try (conv => cbv)))
    | ((with_reducible show Hd.call F 203 _ _ _); rw [bind_iff] at H; obtain ⟨⟨y1, y2, y3⟩, hy, H⟩ := H; (try dsimp only at H); refine call_ hF (impl_ReadVar.con E hE hy) f_ f_ ?_; (try (conv => cbv)))
    | ((with_reducible refine loop_ hF (fun n t => n ≤ k ∧ ∃ (x0 : ByteArray) (x4 : List ByteArray) (x5 : Int), t = At 71 [(0, .c (.str x0)), (4, .own 20004), (5, .c (.int .i64 x5))] [(20004, .row false 9 [.str] (E.eS x4))] ∧ impl_Unframe.l0 n x0 x4 x5 = some (r1, r2)) _ (head_ ⟨[0, 4, 5], [], [(4, 9)], []⟩ ⟨by omega, _, _, _, rfl, H⟩ (by cbv) f_ f_) (fun n0 t ht Q0 hN0 hX0 => ?_)); obtain ⟨hle0, x0, x4, x5, rfl, H⟩ := ht; obtain ⟨m, hm, H⟩ := impl_Unframe.l0_s H; simp only [impl_Unframe.l0] at H; (try (conv => cbv)))
    | ((with_reducible refine hN0 _ ⟨_, ?lt, head_ ⟨[0, 4, 5], [], [(4, 9)], []⟩ ⟨by omega, _, _, _, rfl, H⟩ (by cbv) f_ f_⟩); (case lt => omega))
    | ((with_reducible refine hX0 _ _ ne_ret ?_); (try (conv => cbv)))
    | ((with_reducible refine hX0 _ _ (ne_exit _) ?_); (try (conv => cbv)))
    | ((with_reducible first | refine end_ ⟨[2, 3], [], [(2, 9)], []⟩ 71 hQ (by cbv) ?_ | refine end_ ⟨[2, 3], [], [(2, 9)], []⟩ 71 hQn (by cbv) ?_); (with_reducible have hS := Option.some.inj H); clear hS; cases H; exact f_)
    | contradiction
set_option maxRecDepth 100000 in
set_option maxHeartbeats 4000000 in
theorem impl_ReadShort.con (E : En) (hE : E = E0) {k : Nat} {a0 : ByteArray} {a1 : Int} {r1 : ByteArray} {r2 : Int} {r3 : Bool} (H : impl_ReadShort.f k a0 a1 = some (r1, r2, r3)) :
    Con Tryz.prog TBX 225 [.c (.str a0), .c (.int .i64 a1)] [] (.tup [.c (.str r1), .c (.int .i64 r2), .c (.bool r3)]) [] [] := by
  refine con_of Tryz.func225 rfl (by kernel_rfl) tabOkM [] (Nat.le_of_ble_eq_true rfl) (fun F hF Q hQ hQn => ?_)
  simp only [impl_ReadShort.f] at H
  (conv => cbv)
  repeat' first
    | replace H := s_ H
    | (rw [itn_iff] at H; obtain ⟨hc, H⟩ := H)
    | (rw [itn2_iff] at H; obtain ⟨hc, H⟩ := H)
    | ((with_reducible refine br_ hF (fun hb => ?_) (fun hb => ?_)) <;> ((try simp only [hF, hE] at hb); (try simp only [hs, vs] at hb); first | rw [if_pos hb] at H | rw [if_neg hb] at H | rw [if_nn hb] at H | replace H := i_ hb H | (simp only [hb, not_t, b_f, not_true_eq_false, not_false_eq_true, Bool.not_true, Bool.not_false, Bool.false_eq_true, if_true, if_false] at H) | skip) <;> (try (conv => cbv)))
    | (refine w_ hF ?_; (try (conv => cbv)))
    | ((with_reducible show Hd.call F 203 _ _ _); rw [bind_iff] at H; obtain ⟨⟨y1, y2, y3⟩, hy, H⟩ := H; (try dsimp only at H); refine call_ hF (impl_ReadVar.con E hE hy) f_ f_ ?_; (try (conv => cbv)))
    | ((with_reducible first | refine end_ ⟨[4, 5, 6], [], [], []⟩ 40 hQ (by cbv) ?_ | refine end_ ⟨[4, 5, 6], [], [], []⟩ 40 hQn (by cbv) ?_); (with_reducible have hS := Option.some.inj H); clear hS; cases H; exact f_)
    | contradiction
set_option maxRecDepth 100000 in
set_option maxHeartbeats 4000000 in
theorem impl_reader_text.con (E : En) (hE : E = E0) {k : Nat} {s0_0 : ByteArray} {s0_1 : Int} {s0_2 : Bool} {r1 : ByteArray} {r2 : ByteArray} {r3 : Int} {r4 : Bool} (H : impl_reader_text.f k s0_0 s0_1 s0_2 = some (r1, r2, r3, r4)) :
    Con Tryz.prog TBX 205 [.ptr 10000 0] [.box [.c (.str s0_0), .c (.int .i64 s0_1), .c (.bool s0_2)]] (.c (.str r1)) [] [.box [.c (.str r2), .c (.int .i64 r3), .c (.bool r4)]] := by
  refine con_of Tryz.func205 rfl (by kernel_rfl) tabOkM [] (Nat.le_of_ble_eq_true rfl) (fun F hF Q hQ hQn => ?_)
  simp only [impl_reader_text.f] at H
  (conv => cbv)
  repeat' first
    | replace H := s_ H
    | (rw [itn_iff] at H; obtain ⟨hc, H⟩ := H)
    | (rw [itn2_iff] at H; obtain ⟨hc, H⟩ := H)
    | ((with_reducible refine br_ hF (fun hb => ?_) (fun hb => ?_)) <;> ((try simp only [hF, hE] at hb); (try simp only [hs, vs] at hb); first | rw [if_pos hb] at H | rw [if_neg hb] at H | rw [if_nn hb] at H | replace H := i_ hb H | (simp only [hb, not_t, b_f, not_true_eq_false, not_false_eq_true, Bool.not_true, Bool.not_false, Bool.false_eq_true, if_true, if_false] at H) | skip) <;> (try (conv => cbv)))
    | (refine w_ hF ?_; (try (conv => cbv)))
    | ((with_reducible show Hd.call F 225 _ _ _); rw [bind_iff] at H; obtain ⟨⟨y1, y2, y3⟩, hy, H⟩ := H; (try dsimp only at H); refine call_ hF (impl_ReadShort.con E hE hy) f_ f_ ?_; (try (conv => cbv)))
    | ((with_reducible first | refine end_ ⟨[2], [], [], []⟩ 35 hQ (by cbv) ?_ | refine end_ ⟨[2], [], [], []⟩ 35 hQn (by cbv) ?_); (with_reducible have hS := Option.some.inj H); clear hS; cases H; exact f_)
    | contradiction
set_option maxRecDepth 100000 in
set_option maxHeartbeats 4000000 in
theorem impl_reader_byte.con (E : En) (hE : E = E0) {s0_0 : ByteArray} {s0_1 : Int} {s0_2 : Bool} {r1 : Int} {r2 : ByteArray} {r3 : Int} {r4 : Bool} (H : impl_reader_byte.f s0_0 s0_1 s0_2 = some (r1, r2, r3, r4)) :
    Con Tryz.prog TBX 206 [.ptr 10000 0] [.box [.c (.str s0_0), .c (.int .i64 s0_1), .c (.bool s0_2)]] (.c (.int .i64 r1)) [] [.box [.c (.str r2), .c (.int .i64 r3), .c (.bool r4)]] := by
  refine con_of Tryz.func206 rfl (by kernel_rfl) tabOkM [] (Nat.le_of_ble_eq_true rfl) (fun F hF Q hQ hQn => ?_)
  simp only [impl_reader_byte.f] at H
  (conv => cbv)
  repeat' first
    | replace H := s_ H
    | (rw [itn_iff] at H; obtain ⟨hc, H⟩ := H)
    | (rw [itn2_iff] at H; obtain ⟨hc, H⟩ := H)
    | ((with_reducible refine br_ hF (fun hb => ?_) (fun hb => ?_)) <;> ((try simp only [hF, hE] at hb); (try simp only [hs, vs] at hb); first | rw [if_pos hb] at H | rw [if_neg hb] at H | rw [if_nn hb] at H | replace H := i_ hb H | (simp only [hb, not_t, b_f, not_true_eq_false, not_false_eq_true, Bool.not_true, Bool.not_false, Bool.false_eq_true, if_true, if_false] at H) | skip) <;> (try (conv => cbv)))
    | (refine w_ hF ?_; (try (conv => cbv)))
    | ((with_reducible first | refine end_ ⟨[2], [], [], []⟩ 40 hQ (by cbv) ?_ | refine end_ ⟨[2], [], [], []⟩ 40 hQn (by cbv) ?_); (with_reducible have hS := Option.some.inj H); clear hS; cases H; exact f_)
    | contradiction
end Go.Ev

