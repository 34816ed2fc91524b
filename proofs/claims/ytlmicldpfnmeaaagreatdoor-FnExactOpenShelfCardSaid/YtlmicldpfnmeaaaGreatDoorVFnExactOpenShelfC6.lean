/- Contracts of the Go functions that this law reaches: what each call returns, by its plain function. No conditions but those that each statement names. By this repo's programs; comments are taken out. -/
import Derived.Test.YtlmicldpfnmeaaaGreatDoorVFnExactOpenShelfD
import Derived.Test.YtlmicldpfnmeaaaGreatDoorVFnExactOpenShelfK
import Derived.Test.YtlmicldpfnmeaaaGreatDoorVFnExactOpenShelfC0
import Derived.Test.YtlmicldpfnmeaaaGreatDoorVFnExactOpenShelfC2
import Derived.Test.YtlmicldpfnmeaaaGreatDoorVFnExactOpenShelfC5
set_option linter.all false
namespace Go.Ev
open Go.RowKit Go.Proofs Go.Proofs.YtlmicldpfnmeaaaGreatDoorW.PrintWords Go.Proofs.YtlmicldpfnmeaaaGreatDoorW.PrintLast Go.Proofs.YtlmicldpfnmeaaaGreatDoorW.PrintMore
theorem spec_OpenShelf.j0_s {k : Nat} {x6 : Int} {x8 : List S119} {x455000 : List S122} {x472000 : List Int} {x472001 : Int} {x472002 : Int} {x472003 : Int} {x472004 : List Int} {x472005 : List S145} {x472006 : Int} {r : _} (h : spec_OpenShelf.j0 k x6 x8 x455000 x472000 x472001 x472002 x472003 x472004 x472005 x472006 = some r) : ∃ m, k = m + 1 ∧ spec_OpenShelf.j0 (m + 1) x6 x8 x455000 x472000 x472001 x472002 x472003 x472004 x472005 x472006 = some r := by
  cases k with
  | zero => simp [spec_OpenShelf.j0] at h
  | succ m => exact ⟨m, rfl, h⟩
theorem spec_OpenShelf.l0_s {k : Nat} {x6 : Int} {x8 : List S119} {x9 : Int} {x455000 : List S122} {x472000 : List Int} {x472001 : Int} {x472002 : Int} {x472003 : Int} {x472004 : List Int} {x472005 : List S145} {x472006 : Int} {r : _} (h : spec_OpenShelf.l0 k x6 x8 x9 x455000 x472000 x472001 x472002 x472003 x472004 x472005 x472006 = some r) : ∃ m, k = m + 1 ∧ spec_OpenShelf.l0 (m + 1) x6 x8 x9 x455000 x472000 x472001 x472002 x472003 x472004 x472005 x472006 = some r := by
  cases k with
  | zero => simp [spec_OpenShelf.l0] at h
  | succ m => exact ⟨m, rfl, h⟩
theorem spec_OpenShelf.j0_i {k : Nat} {x6 : Int} {x8 : List S119} {x455000 : List S122} {x472000 : List Int} {x472001 : Int} {x472002 : Int} {x472003 : Int} {x472004 : List Int} {x472005 : List S145} {x472006 : Int} {r : _} : (spec_OpenShelf.j0 k x6 x8 x455000 x472000 x472001 x472002 x472003 x472004 x472005 x472006 = some r) = (∃ m, k = m + 1 ∧ spec_OpenShelf.j0 (m + 1) x6 x8 x455000 x472000 x472001 x472002 x472003 x472004 x472005 x472006 = some r) := propext ⟨spec_OpenShelf.j0_s, fun ⟨m, h, h2⟩ => by rw [h]; exact h2⟩
set_option maxRecDepth 100000 in
set_option maxHeartbeats 4000000 in
theorem spec_OpenShelf.con (E : En) (hE : E = E0) {k : Nat} {l0_0 : List S122} {r1 : List Int} {r2 : Int} {r3 : Int} {r4 : Int} {r5 : List Int} {r6 : List S145} {r7 : Int} {r8 : List S119} {r9 : Int} (H : spec_OpenShelf.f k l0_0 = some (r1, r2, r3, r4, r5, r6, r7, r8, r9)) :
    Con Tryz.prog TBX 20 [.agg [.c (.sl [.str, .str] (E.e122 l0_0))]] [] (.tup [.agg [.own 0, .c (.int .i64 r2), .c (.int .i64 r3), .c (.int .i64 r4), .own 1, .own 2, .c (.int .i64 r7)], .own 3, .c (.int .i64 r9)]) [.row false 3 [.int .i64] (E.eI .i64 r1), .row false 3 [.int .i64] (E.eI .i64 r5), .row false 145 [.str, .int .i64, .int .i64, .int .i64] (E.e145 r6), .row false 119 [.int .i64, .str, .str, .str] (E.e119 r8)] [] := by
  refine con_of Tryz.func20 rfl (by kernel_rfl) tabOk [400040, 400044, 400045, 20003] (Nat.le_of_ble_eq_true rfl) (fun F hF Q hQ hQn => ?_)
  simp only [spec_OpenShelf.f] at H
  (conv => cbv)
  repeat' first
    | (rw [spec_OpenShelf.j0_i] at H; obtain ⟨m, hm, H⟩ := H; simp only [spec_OpenShelf.j0] at H; (try simp only [decide_eq_true_eq, Bool.false_eq_true, if_false, if_true] at H))
    | replace H := s_ H
    | (rw [itn_iff] at H; obtain ⟨hc, H⟩ := H)
    | (rw [itn2_iff] at H; obtain ⟨hc, H⟩ := H)
    | ((with_reducible refine br_ hF (fun hb => ?_) (fun hb => ?_)) <;> ((try simp only [hF, hE] at hb); (try simp only [hs, vs] at hb); first | rw [if_pos hb] at H | rw [if_neg hb] at H | rw [if_nn hb] at H | replace H := i_ hb H | (simp only [hb, not_t, b_f, not_true_eq_false, not_false_eq_true, Bool.not_true, Bool.not_false, Bool.false_eq_true, if_true, if_false] at H) | skip) <;> (try (conv => cbv)))
    | (refine w_ hF ?_; (try (conv => cbv)))
    | ((with_reducible show Hd.call F 60 _ _ _); rw [bind_iff] at H; obtain ⟨y, hy, H⟩ := H; (try dsimp only at H); refine call_ hF (spec_l03Text.con E hE hy) f_ f_ ?_; (try (conv => cbv)))
    | ((with_reducible show Hd.call F 61 _ _ _); rw [bind_iff] at H; obtain ⟨y, hy, H⟩ := H; (try dsimp only at H); refine call_ hF (spec_SegName.con E hE hy) f_ f_ ?_; (try (conv => cbv)))
    | ((with_reducible show Hd.call F 74 _ _ _); rw [bind_iff] at H; obtain ⟨⟨y1, y2, y3, y4, y5, y6, y7, y8, y9⟩, hy, H⟩ := H; (try dsimp only at H); refine call_ hF (spec_l09Load.con E hE hy) f_ f_ ?_; (try (conv => cbv)))
    | ((with_reducible show Hd.call F 75 _ _ _); rw [bind_iff] at H; obtain ⟨y, hy, H⟩ := H; (try dsimp only at H); refine call_ hF (spec_l03At.con E hE hy) f_ f_ ?_; (try (conv => cbv)))
    | ((with_reducible show Hd.call F 76 _ _ _); rw [bind_iff] at H; obtain ⟨y, hy, H⟩ := H; (try dsimp only at H); refine call_ hF (spec_l09Seg.con E hE hy) f_ f_ ?_; (try (conv => cbv)))
    | ((with_reducible show Hd.call F 77 _ _ _); rw [bind_iff] at H; obtain ⟨y, hy, H⟩ := H; (try dsimp only at H); refine call_ hF (spec_l09In.con E hE hy) f_ f_ ?_; (try (conv => cbv)))
    | ((with_reducible refine loop_ hF (fun n t => n ≤ k ∧ ∃ (x6 : Int) (x8 : List S119) (x9 : Int) (x455000 : List S122) (x472000 : List Int) (x472001 : Int) (x472002 : Int) (x472003 : Int) (x472004 : List Int) (x472005 : List S145) (x472006 : Int), t = At 94 [(1, .ptr 1 0), (2, .ptr 2 0), (5, .ptr 5 0), (6, .c (.int .i64 x6)), (8, .own 20008), (9, .c (.int .i64 x9))] [(1, .box [.c (.sl [.str, .str] (E.e122 x455000))]), (2, .box [.own 400040, .c (.int .i64 0), .c (.int .i64 0), .c (.int .i64 0), .own 400044, .own 400045, .c (.int .i64 0)]), (5, .box [.own 400100, .c (.int .i64 x472001), .c (.int .i64 x472002), .c (.int .i64 x472003), .own 400104, .own 400105, .c (.int .i64 x472006)]), (20008, .row false 119 [.int .i64, .str, .str, .str] (E.e119 x8)), (400040, .row false 3 [.int .i64] []), (400044, .row false 3 [.int .i64] []), (400045, .row false 145 [.str, .int .i64, .int .i64, .int .i64] []), (400100, .row false 3 [.int .i64] (E.eI .i64 x472000)), (400104, .row false 3 [.int .i64] (E.eI .i64 x472004)), (400105, .row false 145 [.str, .int .i64, .int .i64, .int .i64] (E.e145 x472005))] ∧ spec_OpenShelf.l0 n x6 x8 x9 x455000 x472000 x472001 x472002 x472003 x472004 x472005 x472006 = some (r1, r2, r3, r4, r5, r6, r7, r8, r9)) _ (head_ ⟨[1, 2, 5, 6, 8, 9], [1, 2, 5], [(8, 119)], [(2, 0, 3), (2, 4, 3), (2, 5, 145), (5, 0, 3), (5, 4, 3), (5, 5, 145)]⟩ ⟨by omega, _, _, _, _, _, _, _, _, _, _, _, rfl, H⟩ (by cbv) f_ f_) (fun n0 t ht Q0 hN0 hX0 => ?_)); obtain ⟨hle0, x6, x8, x9, x455000, x472000, x472001, x472002, x472003, x472004, x472005, x472006, rfl, H⟩ := ht; obtain ⟨m, hm, H⟩ := spec_OpenShelf.l0_s H; simp only [spec_OpenShelf.l0] at H; (try (conv => cbv)))
    | ((with_reducible refine hN0 _ ⟨_, ?lt, head_ ⟨[1, 2, 5, 6, 8, 9], [1, 2, 5], [(8, 119)], [(2, 0, 3), (2, 4, 3), (2, 5, 145), (5, 0, 3), (5, 4, 3), (5, 5, 145)]⟩ ⟨by omega, _, _, _, _, _, _, _, _, _, _, _, rfl, H⟩ (by cbv) f_ f_⟩); (case lt => omega))
    | ((with_reducible refine hX0 _ _ ne_ret ?_); (try (conv => cbv)))
    | ((with_reducible refine hX0 _ _ (ne_exit _) ?_); (try (conv => cbv)))
    | ((with_reducible first | refine end_ ⟨[2, 3, 4], [2], [(3, 119)], [(2, 0, 3), (2, 4, 3), (2, 5, 145)]⟩ 94 hQ (by cbv) ?_ | refine end_ ⟨[2, 3, 4], [2], [(3, 119)], [(2, 0, 3), (2, 4, 3), (2, 5, 145)]⟩ 94 hQn (by cbv) ?_); (with_reducible have hS := Option.some.inj H); clear hS; cases H; exact f_)
    | contradiction
set_option maxRecDepth 100000 in
set_option maxHeartbeats 4000000 in
theorem impl_within.con (E : En) (hE : E = E0) {a0 : Int} {a1 : Int} {a2 : Int} {r : Bool} (H : impl_within.f a0 a1 a2 = some (r)) :
    Con Tryz.prog TBX 144 [.c (.int .i64 a0), .c (.int .i64 a1), .c (.int .i64 a2)] [] (.c (.bool r)) [] [] := by
  refine con_of Tryz.func144 rfl (by kernel_rfl) tabOk [] (Nat.le_of_ble_eq_true rfl) (fun F hF Q hQ hQn => ?_)
  simp only [impl_within.f] at H
  (conv => cbv)
  repeat' first
    | replace H := s_ H
    | (rw [itn_iff] at H; obtain ⟨hc, H⟩ := H)
    | (rw [itn2_iff] at H; obtain ⟨hc, H⟩ := H)
    | ((with_reducible refine br_ hF (fun hb => ?_) (fun hb => ?_)) <;> ((try simp only [hF, hE] at hb); (try simp only [hs, vs] at hb); first | rw [if_pos hb] at H | rw [if_neg hb] at H | rw [if_nn hb] at H | replace H := i_ hb H | (simp only [hb, not_t, b_f, not_true_eq_false, not_false_eq_true, Bool.not_true, Bool.not_false, Bool.false_eq_true, if_true, if_false] at H) | skip) <;> (try (conv => cbv)))
    | (refine w_ hF ?_; (try (conv => cbv)))
    | ((with_reducible first | refine end_ ⟨[6], [], [], []⟩ 15 hQ (by cbv) ?_ | refine end_ ⟨[6], [], [], []⟩ 15 hQn (by cbv) ?_); (with_reducible have hS := Option.some.inj H); clear hS; cases H; exact f_)
    | contradiction
theorem impl_DiskOk.l0_s {k : Nat} {x6 : List S122} {x7 : Int} {x8 : Int} {x493000 : List S122} {r : _} (h : impl_DiskOk.l0 k x6 x7 x8 x493000 = some r) : ∃ m, k = m + 1 ∧ impl_DiskOk.l0 (m + 1) x6 x7 x8 x493000 = some r := by
  cases k with
  | zero => simp [impl_DiskOk.l0] at h
  | succ m => exact ⟨m, rfl, h⟩
set_option maxRecDepth 100000 in
set_option maxHeartbeats 4000000 in
theorem impl_DiskOk.con (E : En) (hE : E = E0) {k : Nat} {l0_0 : List S122} {r : Bool} (H : impl_DiskOk.f k l0_0 = some (r)) :
    Con Tryz.prog TBX 78 [.agg [.c (.sl [.str, .str] (E.e122 l0_0))]] [] (.c (.bool r)) [] [] := by
  refine con_of Tryz.func78 rfl (by kernel_rfl) tabOk [] (Nat.le_of_ble_eq_true rfl) (fun F hF Q hQ hQn => ?_)
  simp only [impl_DiskOk.f] at H
  (conv => cbv)
  repeat' first
    | replace H := s_ H
    | (rw [itn_iff] at H; obtain ⟨hc, H⟩ := H)
    | (rw [itn2_iff] at H; obtain ⟨hc, H⟩ := H)
    | ((with_reducible refine br_ hF (fun hb => ?_) (fun hb => ?_)) <;> ((try simp only [hF, hE] at hb); (try simp only [hs, vs] at hb); first | rw [if_pos hb] at H | rw [if_neg hb] at H | rw [if_nn hb] at H | replace H := i_ hb H | (simp only [hb, not_t, b_f, not_true_eq_false, not_false_eq_true, Bool.not_true, Bool.not_false, Bool.false_eq_true, if_true, if_false] at H) | skip) <;> (try (conv => cbv)))
    | (refine w_ hF ?_; (try (conv => cbv)))
    | ((with_reducible show Hd.call F 144 _ _ _); rw [bind_iff] at H; obtain ⟨y, hy, H⟩ := H; (try dsimp only at H); refine call_ hF (impl_within.con E hE hy) f_ f_ ?_; (try (conv => cbv)))
    | ((with_reducible refine loop_ hF (fun n t => n ≤ k ∧ ∃ (x6 : List S122) (x7 : Int) (x8 : Int) (x493000 : List S122), t = At 45 [(1, .ptr 1 0), (6, .c (.sl [.str, .str] (E.e122 x6))), (7, .c (.int .i64 x7)), (8, .c (.int .i64 x8))] [(1, .box [.c (.sl [.str, .str] (E.e122 x493000))])] ∧ impl_DiskOk.l0 n x6 x7 x8 x493000 = some (r)) _ (head_ ⟨[1, 6, 7, 8], [1], [], []⟩ ⟨by omega, _, _, _, _, rfl, H⟩ (by cbv) f_ f_) (fun n0 t ht Q0 hN0 hX0 => ?_)); obtain ⟨hle0, x6, x7, x8, x493000, rfl, H⟩ := ht; obtain ⟨m, hm, H⟩ := impl_DiskOk.l0_s H; simp only [impl_DiskOk.l0] at H; (try (conv => cbv)))
    | ((with_reducible refine hN0 _ ⟨_, ?lt, head_ ⟨[1, 6, 7, 8], [1], [], []⟩ ⟨by omega, _, _, _, _, rfl, H⟩ (by cbv) f_ f_⟩); (case lt => omega))
    | ((with_reducible refine hX0 _ _ ne_ret ?_); (try (conv => cbv)))
    | ((with_reducible refine hX0 _ _ (ne_exit _) ?_); (try (conv => cbv)))
    | ((with_reducible first | refine end_ ⟨[2], [], [], []⟩ 45 hQ (by cbv) ?_ | refine end_ ⟨[2], [], [], []⟩ 45 hQn (by cbv) ?_); (with_reducible have hS := Option.some.inj H); clear hS; cases H; exact f_)
    | contradiction
set_option maxRecDepth 100000 in
set_option maxHeartbeats 4000000 in
theorem impl_fileNo_c1.con (E : En) (hE : E = E0) {a0_0 : ByteArray} {a0_1 : ByteArray} {a1 : ByteArray} {r : Int} (H : impl_fileNo_c1.f a0_0 a0_1 a1 = some r) :
    Con Tryz.prog TBX 201 [.agg [.c (.str a0_0), .c (.str a0_1)], .c (.str a1)] [] (.c (.int .i64 r)) [] [] := by
  refine con_of Tryz.func201 rfl (by kernel_rfl) tabOkM [] (Nat.le_of_ble_eq_true rfl) (fun F hF Q hQ hQn => ?_)
  simp only [impl_fileNo_c1.f] at H
  (conv => cbv)
  repeat' first
    | replace H := s_ H
    | (rw [itn_iff] at H; obtain ⟨hc, H⟩ := H)
    | (rw [itn2_iff] at H; obtain ⟨hc, H⟩ := H)
    | ((with_reducible refine br_ hF (fun hb => ?_) (fun hb => ?_)) <;> ((try simp only [hF, hE] at hb); (try simp only [hs, vs] at hb); first | rw [if_pos hb] at H | rw [if_neg hb] at H | rw [if_nn hb] at H | replace H := i_ hb H | (simp only [hb, not_t, b_f, not_true_eq_false, not_false_eq_true, Bool.not_true, Bool.not_false, Bool.false_eq_true, if_true, if_false] at H) | skip) <;> (try (conv => cbv)))
    | (refine w_ hF ?_; (try (conv => cbv)))
    | ((with_reducible show Hd.call F 168 _ _ _); rw [bind_iff] at H; obtain ⟨y, hy, H⟩ := H; (try dsimp only at H); refine call_ hF (strings_Compare.con E hE hy) f_ f_ ?_; (try (conv => cbv)))
    | ((with_reducible first | refine end_ ⟨[4], [], [], []⟩ 9 hQ (by cbv) ?_ | refine end_ ⟨[4], [], [], []⟩ 9 hQn (by cbv) ?_); (with_reducible have hS := Option.some.inj H); clear hS; cases H; exact f_)
    | contradiction
theorem slices_BinarySearchFunc_impl_File_impl_File_string.l0_s {k : Nat} {x0 : List S122} {x1 : ByteArray} {x8 : Int} {x9 : Int} {x10 : Int} {r : _} (h : slices_BinarySearchFunc_impl_File_impl_File_string.l0 k x0 x1 x8 x9 x10 = some r) : ∃ m, k = m + 1 ∧ slices_BinarySearchFunc_impl_File_impl_File_string.l0 (m + 1) x0 x1 x8 x9 x10 = some r := by
  cases k with
  | zero => simp [slices_BinarySearchFunc_impl_File_impl_File_string.l0] at h
  | succ m => exact ⟨m, rfl, h⟩
set_option maxRecDepth 100000 in
set_option maxHeartbeats 4000000 in
theorem slices_BinarySearchFunc_impl_File_impl_File_string.con (E : En) (hE : E = E0) {k : Nat} {l0 : List S122} {a1 : ByteArray} {r1 : Int} {r2 : Bool} (H : slices_BinarySearchFunc_impl_File_impl_File_string.f k l0 a1 = some (r1, r2)) :
    Con Tryz.prog TBX 200 [.c (.sl [.str, .str] (E.e122 l0)), .c (.str a1), .c (.fn 201)] [] (.tup [.c (.int .i64 r1), .c (.bool r2)]) [] [] := by
  refine con_of Tryz.func200 rfl (by kernel_rfl) tabOkM [] (Nat.le_of_ble_eq_true rfl) (fun F hF Q hQ hQn => ?_)
  simp only [slices_BinarySearchFunc_impl_File_impl_File_string.f] at H
  (conv => cbv)
  repeat' first
    | replace H := s_ H
    | (rw [itn_iff] at H; obtain ⟨hc, H⟩ := H)
    | (rw [itn2_iff] at H; obtain ⟨hc, H⟩ := H)
    | ((with_reducible refine br_ hF (fun hb => ?_) (fun hb => ?_)) <;> ((try simp only [hF, hE] at hb); (try simp only [hs, vs] at hb); first | rw [if_pos hb] at H | rw [if_neg hb] at H | rw [if_nn hb] at H | replace H := i_ hb H | (simp only [hb, not_t, b_f, not_true_eq_false, not_false_eq_true, Bool.not_true, Bool.not_false, Bool.false_eq_true, if_true, if_false] at H) | skip) <;> (try (conv => cbv)))
    | (refine w_ hF ?_; (try (conv => cbv)))
    | ((with_reducible show Hd.call F 201 _ _ _); rw [bind_iff] at H; obtain ⟨y, hy, H⟩ := H; (try dsimp only at H); refine call_ hF (impl_fileNo_c1.con E hE hy) f_ f_ ?_; (try (conv => cbv)))
    | ((with_reducible refine loop_ hF (fun n t => n ≤ k ∧ ∃ (x0 : List S122) (x1 : ByteArray) (x8 : Int) (x9 : Int) (x10 : Int), t = At 49 [(0, .c (.sl [.str, .str] (E.e122 x0))), (1, .c (.str x1)), (2, .c (.fn 201)), (8, .c (.int .i64 x8)), (9, .c (.int .i64 x9)), (10, .c (.int .i64 x10))] [] ∧ slices_BinarySearchFunc_impl_File_impl_File_string.l0 n x0 x1 x8 x9 x10 = some (r1, r2)) _ (head_ ⟨[0, 1, 2, 8, 9, 10], [], [], []⟩ ⟨by omega, _, _, _, _, _, rfl, H⟩ (by cbv) f_ f_) (fun n0 t ht Q0 hN0 hX0 => ?_)); obtain ⟨hle0, x0, x1, x8, x9, x10, rfl, H⟩ := ht; obtain ⟨m, hm, H⟩ := slices_BinarySearchFunc_impl_File_impl_File_string.l0_s H; simp only [slices_BinarySearchFunc_impl_File_impl_File_string.l0] at H; (try (conv => cbv)))
    | ((with_reducible refine hN0 _ ⟨_, ?lt, head_ ⟨[0, 1, 2, 8, 9, 10], [], [], []⟩ ⟨by omega, _, _, _, _, _, rfl, H⟩ (by cbv) f_ f_⟩); (case lt => omega))
    | ((with_reducible refine hX0 _ _ ne_ret ?_); (try (conv => cbv)))
    | ((with_reducible refine hX0 _ _ (ne_exit _) ?_); (try (conv => cbv)))
    | ((with_reducible first | refine end_ ⟨[6, 7], [], [], []⟩ 49 hQ (by cbv) ?_ | refine end_ ⟨[6, 7], [], [], []⟩ 49 hQn (by cbv) ?_); (with_reducible have hS := Option.some.inj H); clear hS; cases H; exact f_)
    | contradiction
set_option maxRecDepth 100000 in
set_option maxHeartbeats 4000000 in
theorem impl_fileNo.con (E : En) (hE : E = E0) {k : Nat} {l0_0 : List S122} {a1 : ByteArray} {r1 : Int} {r2 : Bool} (H : impl_fileNo.f k l0_0 a1 = some (r1, r2)) :
    Con Tryz.prog TBX 143 [.agg [.c (.sl [.str, .str] (E.e122 l0_0))], .c (.str a1)] [] (.tup [.c (.int .i64 r1), .c (.bool r2)]) [] [] := by
  refine con_of Tryz.func143 rfl (by kernel_rfl) tabOkM [] (Nat.le_of_ble_eq_true rfl) (fun F hF Q hQ hQn => ?_)
  simp only [impl_fileNo.f] at H
  (conv => cbv)
  repeat' first
    | replace H := s_ H
    | (rw [itn_iff] at H; obtain ⟨hc, H⟩ := H)
    | (rw [itn2_iff] at H; obtain ⟨hc, H⟩ := H)
    | ((with_reducible refine br_ hF (fun hb => ?_) (fun hb => ?_)) <;> ((try simp only [hF, hE] at hb); (try simp only [hs, vs] at hb); first | rw [if_pos hb] at H | rw [if_neg hb] at H | rw [if_nn hb] at H | replace H := i_ hb H | (simp only [hb, not_t, b_f, not_true_eq_false, not_false_eq_true, Bool.not_true, Bool.not_false, Bool.false_eq_true, if_true, if_false] at H) | skip) <;> (try (conv => cbv)))
    | (refine w_ hF ?_; (try (conv => cbv)))
    | ((with_reducible show Hd.call F 200 _ _ _); rw [bind_iff] at H; obtain ⟨⟨y1, y2⟩, hy, H⟩ := H; (try dsimp only at H); refine call_ hF (slices_BinarySearchFunc_impl_File_impl_File_string.con E hE hy) f_ f_ ?_; (try (conv => cbv)))
    | ((with_reducible first | refine end_ ⟨[4, 5], [], [], []⟩ 12 hQ (by cbv) ?_ | refine end_ ⟨[4, 5], [], [], []⟩ 12 hQn (by cbv) ?_); (with_reducible have hS := Option.some.inj H); clear hS; cases H; exact f_)
    | contradiction
set_option maxRecDepth 100000 in
set_option maxHeartbeats 4000000 in
theorem impl_FileAt.con (E : En) (hE : E = E0) {k : Nat} {l0_0 : List S122} {a1 : ByteArray} {r1 : ByteArray} {r2 : Bool} (H : impl_FileAt.f k l0_0 a1 = some (r1, r2)) :
    Con Tryz.prog TBX 68 [.agg [.c (.sl [.str, .str] (E.e122 l0_0))], .c (.str a1)] [] (.tup [.c (.str r1), .c (.bool r2)]) [] [] := by
  refine con_of Tryz.func68 rfl (by kernel_rfl) tabOkM [] (Nat.le_of_ble_eq_true rfl) (fun F hF Q hQ hQn => ?_)
  simp only [impl_FileAt.f] at H
  (conv => cbv)
  repeat' first
    | replace H := s_ H
    | (rw [itn_iff] at H; obtain ⟨hc, H⟩ := H)
    | (rw [itn2_iff] at H; obtain ⟨hc, H⟩ := H)
    | ((with_reducible refine br_ hF (fun hb => ?_) (fun hb => ?_)) <;> ((try simp only [hF, hE] at hb); (try simp only [hs, vs] at hb); first | rw [if_pos hb] at H | rw [if_neg hb] at H | rw [if_nn hb] at H | replace H := i_ hb H | (simp only [hb, not_t, b_f, not_true_eq_false, not_false_eq_true, Bool.not_true, Bool.not_false, Bool.false_eq_true, if_true, if_false] at H) | skip) <;> (try (conv => cbv)))
    | (refine w_ hF ?_; (try (conv => cbv)))
    | ((with_reducible show Hd.call F 78 _ _ _); rw [bind_iff] at H; obtain ⟨y, hy, H⟩ := H; (try dsimp only at H); refine call_ hF (impl_DiskOk.con E hE hy) f_ f_ ?_; (try (conv => cbv)))
    | ((with_reducible show Hd.call F 143 _ _ _); rw [bind_iff] at H; obtain ⟨⟨y1, y2⟩, hy, H⟩ := H; (try dsimp only at H); refine call_ hF (impl_fileNo.con E hE hy) f_ f_ ?_; (try (conv => cbv)))
    | ((with_reducible first | refine end_ ⟨[4, 5], [], [], []⟩ 25 hQ (by cbv) ?_ | refine end_ ⟨[4, 5], [], [], []⟩ 25 hQn (by cbv) ?_); (with_reducible have hS := Option.some.inj H); clear hS; cases H; exact f_)
    | contradiction
theorem impl_SumMore.l0_s {k : Nat} {x0 : Int} {x1 : ByteArray} {x5 : Int} {r : _} (h : impl_SumMore.l0 k x0 x1 x5 = some r) : ∃ m, k = m + 1 ∧ impl_SumMore.l0 (m + 1) x0 x1 x5 = some r := by
  cases k with
  | zero => simp [impl_SumMore.l0] at h
  | succ m => exact ⟨m, rfl, h⟩
theorem impl_SumMore.l1_s {k : Nat} {x0 : Int} {x1 : ByteArray} {x5 : Int} {x6 : Int} {r : _} (h : impl_SumMore.l1 k x0 x1 x5 x6 = some r) : ∃ m, k = m + 1 ∧ impl_SumMore.l1 (m + 1) x0 x1 x5 x6 = some r := by
  cases k with
  | zero => simp [impl_SumMore.l1] at h
  | succ m => exact ⟨m, rfl, h⟩
set_option maxRecDepth 100000 in
set_option maxHeartbeats 4000000 in
theorem impl_SumMore.con (E : En) (hE : E = E0) {k : Nat} {a0 : Int} {a1 : ByteArray} {r : Int} (H : impl_SumMore.f k a0 a1 = some (r)) :
    Con Tryz.prog TBX 218 [.c (.int .u32 a0), .c (.str a1)] [] (.c (.int .u32 r)) [] [] := by
  refine con_of Tryz.func218 rfl (by kernel_rfl) tabOk [] (Nat.le_of_ble_eq_true rfl) (fun F hF Q hQ hQn => ?_)
  simp only [impl_SumMore.f] at H
  (conv => cbv)
  repeat' first
    | replace H := s_ H
    | (rw [itn_iff] at H; obtain ⟨hc, H⟩ := H)
    | (rw [itn2_iff] at H; obtain ⟨hc, H⟩ := H)
    | ((with_reducible refine br_ hF (fun hb => ?_) (fun hb => ?_)) <;> ((try simp only [hF, hE] at hb); (try simp only [hs, vs] at hb); first | rw [if_pos hb] at H | rw [if_neg hb] at H | rw [if_nn hb] at H | replace H := i_ hb H | (simp only [hb, not_t, b_f, not_true_eq_false, not_false_eq_true, Bool.not_true, Bool.not_false, Bool.false_eq_true, if_true, if_false] at H) | skip) <;> (try (conv => cbv)))
    | (refine w_ hF ?_; (try (conv => cbv)))
    | ((with_reducible refine loop_ hF (fun n t => n ≤ k ∧ ∃ (x0 : Int) (x1 : ByteArray) (x5 : Int), t = At 33 [(0, .c (.int .u32 x0)), (1, .c (.str x1)), (5, .c (.int .i64 x5))] [] ∧ impl_SumMore.l0 n x0 x1 x5 = some (r)) _ (head_ ⟨[0, 1, 5], [], [], []⟩ ⟨by omega, _, _, _, rfl, H⟩ (by cbv) f_ f_) (fun n0 t ht Q0 hN0 hX0 => ?_)); obtain ⟨hle0, x0, x1, x5, rfl, H⟩ := ht; obtain ⟨m, hm, H⟩ := impl_SumMore.l0_s H; simp only [impl_SumMore.l0] at H; (try (conv => cbv)))
    | ((with_reducible refine hN0 _ ⟨_, ?lt, head_ ⟨[0, 1, 5], [], [], []⟩ ⟨by omega, _, _, _, rfl, H⟩ (by cbv) f_ f_⟩); (case lt => omega))
    | ((with_reducible refine hX0 _ _ ne_ret ?_); (try (conv => cbv)))
    | ((with_reducible refine hX0 _ _ (ne_exit _) ?_); (try (conv => cbv)))
    | ((with_reducible refine loop_ hF (fun n t => n ≤ n0 ∧ ∃ (x0 : Int) (x1 : ByteArray) (x5 : Int) (x6 : Int), t = At 33 [(0, .c (.int .u32 x0)), (1, .c (.str x1)), (5, .c (.int .i64 x5)), (6, .c (.int .i64 x6))] [] ∧ impl_SumMore.l1 n x0 x1 x5 x6 = some (r)) _ (head_ ⟨[0, 1, 5, 6], [], [], []⟩ ⟨by omega, _, _, _, _, rfl, H⟩ (by cbv) f_ f_) (fun n1 t ht Q1 hN1 hX1 => ?_)); obtain ⟨hle1, x0, x1, x5, x6, rfl, H⟩ := ht; obtain ⟨m, hm, H⟩ := impl_SumMore.l1_s H; simp only [impl_SumMore.l1] at H; (try (conv => cbv)))
    | ((with_reducible refine hN1 _ ⟨_, ?lt, head_ ⟨[0, 1, 5, 6], [], [], []⟩ ⟨by omega, _, _, _, _, rfl, H⟩ (by cbv) f_ f_⟩); (case lt => omega))
    | ((with_reducible refine hX1 _ _ ne_ret ?_); (try (conv => cbv)))
    | ((with_reducible refine hX1 _ _ (ne_exit _) ?_); (try (conv => cbv)))
    | ((with_reducible first | refine end_ ⟨[4], [], [], []⟩ 33 hQ (by cbv) ?_ | refine end_ ⟨[4], [], [], []⟩ 33 hQn (by cbv) ?_); (with_reducible have hS := Option.some.inj H); clear hS; cases H; exact f_)
    | contradiction
end Go.Ev

