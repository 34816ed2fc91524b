/- Contracts of the Go functions that this law reaches: what each call returns, by its plain function. No conditions but those that each statement names. By this repo's programs; comments are taken out. -/
import Derived.Test.YtlmicldpfnmeaaaGreatDoorVFnExactOpenShelfD
import Derived.Test.YtlmicldpfnmeaaaGreatDoorVFnExactOpenShelfC0
import Derived.Test.YtlmicldpfnmeaaaGreatDoorVFnExactOpenShelfC1
set_option linter.all false
namespace Go.Ev
open Go.RowKit Go.Proofs Go.Proofs.YtlmicldpfnmeaaaGreatDoorW.PrintWords Go.Proofs.YtlmicldpfnmeaaaGreatDoorW.PrintLast Go.Proofs.YtlmicldpfnmeaaaGreatDoorW.PrintMore
theorem spec_ManifestText.l0_s {k : Nat} {x4 : ByteArray} {x5 : Int} {x214000 : List Int} {x214001 : Int} {x214002 : Int} {x214003 : Int} {x214004 : List Int} {r : _} (h : spec_ManifestText.l0 k x4 x5 x214000 x214001 x214002 x214003 x214004 = some r) : ∃ m, k = m + 1 ∧ spec_ManifestText.l0 (m + 1) x4 x5 x214000 x214001 x214002 x214003 x214004 = some r := by
  cases k with
  | zero => simp [spec_ManifestText.l0] at h
  | succ m => exact ⟨m, rfl, h⟩
theorem spec_ManifestText.l1_s {k : Nat} {x4 : ByteArray} {x6 : Int} {x214000 : List Int} {x214001 : Int} {x214002 : Int} {x214003 : Int} {x214004 : List Int} {r : _} (h : spec_ManifestText.l1 k x4 x6 x214000 x214001 x214002 x214003 x214004 = some r) : ∃ m, k = m + 1 ∧ spec_ManifestText.l1 (m + 1) x4 x6 x214000 x214001 x214002 x214003 x214004 = some r := by
  cases k with
  | zero => simp [spec_ManifestText.l1] at h
  | succ m => exact ⟨m, rfl, h⟩
set_option maxRecDepth 100000 in
set_option maxHeartbeats 4000000 in
theorem spec_ManifestText.con (E : En) (hE : E = E0) {k : Nat} {l0_0 : List Int} {a0_1 : Int} {a0_2 : Int} {a0_3 : Int} {l0_4 : List Int} {r1 : ByteArray} {r2 : Bool} (H : spec_ManifestText.f k l0_0 a0_1 a0_2 a0_3 l0_4 = some (r1, r2)) :
    Con Tryz.prog TBX 108 [.agg [.c (.sl [.int .i64] (E.eI .i64 l0_0)), .c (.int .i64 a0_1), .c (.int .i64 a0_2), .c (.int .i64 a0_3), .c (.sl [.int .i64] (E.eI .i64 l0_4))]] [] (.tup [.c (.str r1), .c (.bool r2)]) [] [] := by
  refine con_of Tryz.func108 rfl (by kernel_rfl) tabOk [] (Nat.le_of_ble_eq_true rfl) (fun F hF Q hQ hQn => ?_)
  simp only [spec_ManifestText.f] at H
  (conv => cbv)
  repeat' first
    | replace H := s_ H
    | (rw [itn_iff] at H; obtain ⟨hc, H⟩ := H)
    | (rw [itn2_iff] at H; obtain ⟨hc, H⟩ := H)
    | ((with_reducible refine br_ hF (fun hb => ?_) (fun hb => ?_)) <;> ((try simp only [hF, hE] at hb); (try simp only [hs, vs] at hb); first | rw [if_pos hb] at H | rw [if_neg hb] at H | rw [if_nn hb] at H | replace H := i_ hb H | (simp only [hb, not_t, b_f, not_true_eq_false, not_false_eq_true, Bool.not_true, Bool.not_false, Bool.false_eq_true, if_true, if_false] at H) | skip) <;> (try (conv => cbv)))
    | (refine w_ hF ?_; (try (conv => cbv)))
    | ((with_reducible show Hd.call F 136 _ _ _); rw [bind_iff] at H; obtain ⟨y, hy, H⟩ := H; (try dsimp only at H); refine call_ hF (spec_l01Var.con E hE hy) f_ f_ ?_; (try (conv => cbv)))
    | ((with_reducible show Hd.call F 189 _ _ _); rw [bind_iff] at H; obtain ⟨y, hy, H⟩ := H; (try dsimp only at H); refine call_ hF (spec_ManifestOk.con E hE hy) f_ f_ ?_; (try (conv => cbv)))
    | ((with_reducible show Hd.call F 190 _ _ _); rw [bind_iff] at H; obtain ⟨⟨y1, y2⟩, hy, H⟩ := H; (try dsimp only at H); refine call_ hF (spec_Sealed.con E hE hy) f_ f_ ?_; (try (conv => cbv)))
    | ((with_reducible refine loop_ hF (fun n t => n ≤ k ∧ ∃ (x4 : ByteArray) (x5 : Int) (x214000 : List Int) (x214001 : Int) (x214002 : Int) (x214003 : Int) (x214004 : List Int), t = At 66 [(1, .ptr 1 0), (4, .c (.str x4)), (5, .c (.int .i64 x5))] [(1, .box [.c (.sl [.int .i64] (E.eI .i64 x214000)), .c (.int .i64 x214001), .c (.int .i64 x214002), .c (.int .i64 x214003), .c (.sl [.int .i64] (E.eI .i64 x214004))])] ∧ spec_ManifestText.l0 n x4 x5 x214000 x214001 x214002 x214003 x214004 = some (r1, r2)) _ (head_ ⟨[1, 4, 5], [1], [], []⟩ ⟨by omega, _, _, _, _, _, _, _, rfl, H⟩ (by cbv) f_ f_) (fun n0 t ht Q0 hN0 hX0 => ?_)); obtain ⟨hle0, x4, x5, x214000, x214001, x214002, x214003, x214004, rfl, H⟩ := ht; obtain ⟨m, hm, H⟩ := spec_ManifestText.l0_s H; simp only [spec_ManifestText.l0] at H; (try (conv => cbv)))
    | ((with_reducible refine hN0 _ ⟨_, ?lt, head_ ⟨[1, 4, 5], [1], [], []⟩ ⟨by omega, _, _, _, _, _, _, _, rfl, H⟩ (by cbv) f_ f_⟩); (case lt => omega))
    | ((with_reducible refine hX0 _ _ ne_ret ?_); (try (conv => cbv)))
    | ((with_reducible refine hX0 _ _ (ne_exit _) ?_); (try (conv => cbv)))
    | ((with_reducible refine loop_ hF (fun n t => n ≤ k ∧ ∃ (x4 : ByteArray) (x6 : Int) (x214000 : List Int) (x214001 : Int) (x214002 : Int) (x214003 : Int) (x214004 : List Int), t = At 66 [(1, .ptr 1 0), (4, .c (.str x4)), (6, .c (.int .i64 x6))] [(1, .box [.c (.sl [.int .i64] (E.eI .i64 x214000)), .c (.int .i64 x214001), .c (.int .i64 x214002), .c (.int .i64 x214003), .c (.sl [.int .i64] (E.eI .i64 x214004))])] ∧ spec_ManifestText.l1 n x4 x6 x214000 x214001 x214002 x214003 x214004 = some (r1, r2)) _ (head_ ⟨[1, 4, 6], [1], [], []⟩ ⟨by omega, _, _, _, _, _, _, _, rfl, H⟩ (by cbv) f_ f_) (fun n1 t ht Q1 hN1 hX1 => ?_)); obtain ⟨hle1, x4, x6, x214000, x214001, x214002, x214003, x214004, rfl, H⟩ := ht; obtain ⟨m, hm, H⟩ := spec_ManifestText.l1_s H; simp only [spec_ManifestText.l1] at H; (try (conv => cbv)))
    | ((with_reducible refine hN1 _ ⟨_, ?lt, head_ ⟨[1, 4, 6], [1], [], []⟩ ⟨by omega, _, _, _, _, _, _, _, rfl, H⟩ (by cbv) f_ f_⟩); (case lt => omega))
    | ((with_reducible refine hX1 _ _ ne_ret ?_); (try (conv => cbv)))
    | ((with_reducible refine hX1 _ _ (ne_exit _) ?_); (try (conv => cbv)))
    | ((with_reducible first | refine end_ ⟨[2, 3], [], [], []⟩ 66 hQ (by cbv) ?_ | refine end_ ⟨[2, 3], [], [], []⟩ 66 hQn (by cbv) ?_); (with_reducible have hS := Option.some.inj H); clear hS; cases H; exact f_)
    | contradiction
theorem spec_ReadManifest.j1_s {k : Nat} {x0 : ByteArray} {x237000 : ByteArray} {x237001 : Int} {x237002 : Bool} {x238000 : List Int} {x238001 : Int} {x238002 : Int} {x238003 : Int} {r : _} (h : spec_ReadManifest.j1 k x0 x237000 x237001 x237002 x238000 x238001 x238002 x238003 = some r) : ∃ m, k = m + 1 ∧ spec_ReadManifest.j1 (m + 1) x0 x237000 x237001 x237002 x238000 x238001 x238002 x238003 = some r := by
  cases k with
  | zero => simp [spec_ReadManifest.j1] at h
  | succ m => exact ⟨m, rfl, h⟩
theorem spec_ReadManifest.l1_s {k : Nat} {x0 : ByteArray} {x8 : Int} {x10 : Int} {x237000 : ByteArray} {x237001 : Int} {x237002 : Bool} {x238000 : List Int} {x238001 : Int} {x238002 : Int} {x238003 : Int} {x238004 : List Int} {r : _} (h : spec_ReadManifest.l1 k x0 x8 x10 x237000 x237001 x237002 x238000 x238001 x238002 x238003 x238004 = some r) : ∃ m, k = m + 1 ∧ spec_ReadManifest.l1 (m + 1) x0 x8 x10 x237000 x237001 x237002 x238000 x238001 x238002 x238003 x238004 = some r := by
  cases k with
  | zero => simp [spec_ReadManifest.l1] at h
  | succ m => exact ⟨m, rfl, h⟩
theorem spec_ReadManifest.l0_s {k : Nat} {x0 : ByteArray} {x8 : Int} {x9 : Int} {x237000 : ByteArray} {x237001 : Int} {x237002 : Bool} {x238000 : List Int} {x238001 : Int} {x238002 : Int} {x238003 : Int} {r : _} (h : spec_ReadManifest.l0 k x0 x8 x9 x237000 x237001 x237002 x238000 x238001 x238002 x238003 = some r) : ∃ m, k = m + 1 ∧ spec_ReadManifest.l0 (m + 1) x0 x8 x9 x237000 x237001 x237002 x238000 x238001 x238002 x238003 = some r := by
  cases k with
  | zero => simp [spec_ReadManifest.l0] at h
  | succ m => exact ⟨m, rfl, h⟩
theorem spec_ReadManifest.j1_i {k : Nat} {x0 : ByteArray} {x237000 : ByteArray} {x237001 : Int} {x237002 : Bool} {x238000 : List Int} {x238001 : Int} {x238002 : Int} {x238003 : Int} {r : _} : (spec_ReadManifest.j1 k x0 x237000 x237001 x237002 x238000 x238001 x238002 x238003 = some r) = (∃ m, k = m + 1 ∧ spec_ReadManifest.j1 (m + 1) x0 x237000 x237001 x237002 x238000 x238001 x238002 x238003 = some r) := propext ⟨spec_ReadManifest.j1_s, fun ⟨m, h, h2⟩ => by rw [h]; exact h2⟩
set_option maxRecDepth 100000 in
set_option maxHeartbeats 4000000 in
theorem spec_ReadManifest.con (E : En) (hE : E = E0) {k : Nat} {a0 : ByteArray} {r1 : List Int} {r2 : Int} {r3 : Int} {r4 : Int} {r5 : List Int} {r6 : Bool} (H : spec_ReadManifest.f k a0 = some (r1, r2, r3, r4, r5, r6)) :
    Con Tryz.prog TBX 151 [.c (.str a0)] [] (.tup [.agg [.own 0, .c (.int .i64 r2), .c (.int .i64 r3), .c (.int .i64 r4), .own 1], .c (.bool r6)]) [.row false 3 [.int .i64] (E.eI .i64 r1), .row false 3 [.int .i64] (E.eI .i64 r5)] [] := by
  refine con_of Tryz.func151 rfl (by kernel_rfl) tabOk [400040, 400044] (Nat.le_of_ble_eq_true rfl) (fun F hF Q hQ hQn => ?_)
  simp only [spec_ReadManifest.f] at H
  (conv => cbv)
  repeat' first
    | (rw [spec_ReadManifest.j1_i] at H; obtain ⟨m, hm, H⟩ := H; simp only [spec_ReadManifest.j1] at H; (try simp only [decide_eq_true_eq, Bool.false_eq_true, if_false, if_true] at H))
    | replace H := s_ H
    | (rw [itn_iff] at H; obtain ⟨hc, H⟩ := H)
    | (rw [itn2_iff] at H; obtain ⟨hc, H⟩ := H)
    | ((with_reducible refine br_ hF (fun hb => ?_) (fun hb => ?_)) <;> ((try simp only [hF, hE] at hb); (try simp only [hs, vs] at hb); first | rw [if_pos hb] at H | rw [if_neg hb] at H | rw [if_nn hb] at H | replace H := i_ hb H | (simp only [hb, not_t, b_f, not_true_eq_false, not_false_eq_true, Bool.not_true, Bool.not_false, Bool.false_eq_true, if_true, if_false] at H) | skip) <;> (try (conv => cbv)))
    | (refine w_ hF ?_; (try (conv => cbv)))
    | ((with_reducible show Hd.call F 108 _ _ _); rw [bind_iff] at H; obtain ⟨⟨y1, y2⟩, hy, H⟩ := H; (try dsimp only at H); refine call_ hF (spec_ManifestText.con E hE hy) f_ f_ ?_; (try (conv => cbv)))
    | ((with_reducible show Hd.call F 133 _ _ _); rw [bind_iff] at H; obtain ⟨⟨y1, y2, y3, y4⟩, hy, H⟩ := H; (try dsimp only at H); refine call_ hF (spec_l05Var.con E hE hy) f_ f_ ?_; (try (conv => cbv)))
    | ((with_reducible show Hd.call F 207 _ _ _); rw [bind_iff] at H; obtain ⟨⟨y1, y2⟩, hy, H⟩ := H; (try dsimp only at H); refine call_ hF (spec_Unsealed.con E hE hy) f_ f_ ?_; (try (conv => cbv)))
    | ((with_reducible refine loop_ hF (fun n t => n ≤ k ∧ ∃ (x0 : ByteArray) (x8 : Int) (x9 : Int) (x237000 : ByteArray) (x237001 : Int) (x237002 : Bool) (x238000 : List Int) (x238001 : Int) (x238002 : Int) (x238003 : Int), t = At 103 [(0, .c (.str x0)), (2, .ptr 2 0), (6, .ptr 22 0), (7, .ptr 7 0), (8, .c (.int .i64 x8)), (9, .c (.int .i64 x9)), (22, .ptr 22 0)] [(2, .box [.own 400040, .c (.int .i64 0), .c (.int .i64 0), .c (.int .i64 0), .own 400044]), (22, .box [.c (.str x237000), .c (.int .i64 x237001), .c (.bool x237002)]), (7, .box [.own 400140, .c (.int .i64 x238001), .c (.int .i64 x238002), .c (.int .i64 x238003), .own 400144]), (400040, .row false 3 [.int .i64] []), (400044, .row false 3 [.int .i64] []), (400140, .row false 3 [.int .i64] (E.eI .i64 x238000)), (400144, .row false 3 [.int .i64] [])] ∧ spec_ReadManifest.l0 n x0 x8 x9 x237000 x237001 x237002 x238000 x238001 x238002 x238003 = some (r1, r2, r3, r4, r5, r6)) _ (head_ ⟨[0, 2, 6, 7, 8, 9, 22], [2, 22, 7], [], [(2, 0, 3), (2, 4, 3), (7, 0, 3), (7, 4, 3)]⟩ ⟨by omega, _, _, _, _, _, _, _, _, _, _, rfl, H⟩ (by cbv) f_ f_) (fun n0 t ht Q0 hN0 hX0 => ?_)); obtain ⟨hle0, x0, x8, x9, x237000, x237001, x237002, x238000, x238001, x238002, x238003, rfl, H⟩ := ht; obtain ⟨m, hm, H⟩ := spec_ReadManifest.l0_s H; simp only [spec_ReadManifest.l0] at H; (try (conv => cbv)))
    | ((with_reducible refine hN0 _ ⟨_, ?lt, head_ ⟨[0, 2, 6, 7, 8, 9, 22], [2, 22, 7], [], [(2, 0, 3), (2, 4, 3), (7, 0, 3), (7, 4, 3)]⟩ ⟨by omega, _, _, _, _, _, _, _, _, _, _, rfl, H⟩ (by cbv) f_ f_⟩); (case lt => omega))
    | ((with_reducible refine hX0 _ _ ne_ret ?_); (try (conv => cbv)))
    | ((with_reducible refine hX0 _ _ (ne_exit _) ?_); (try (conv => cbv)))
    | ((with_reducible refine loop_ hF (fun n t => n ≤ k ∧ ∃ (x0 : ByteArray) (x8 : Int) (x10 : Int) (x237000 : ByteArray) (x237001 : Int) (x237002 : Bool) (x238000 : List Int) (x238001 : Int) (x238002 : Int) (x238003 : Int) (x238004 : List Int), t = At 103 [(0, .c (.str x0)), (2, .ptr 2 0), (6, .ptr 22 0), (7, .ptr 7 0), (8, .c (.int .i64 x8)), (10, .c (.int .i64 x10)), (22, .ptr 22 0)] [(2, .box [.own 400040, .c (.int .i64 0), .c (.int .i64 0), .c (.int .i64 0), .own 400044]), (22, .box [.c (.str x237000), .c (.int .i64 x237001), .c (.bool x237002)]), (7, .box [.own 400140, .c (.int .i64 x238001), .c (.int .i64 x238002), .c (.int .i64 x238003), .own 400144]), (400040, .row false 3 [.int .i64] []), (400044, .row false 3 [.int .i64] []), (400140, .row false 3 [.int .i64] (E.eI .i64 x238000)), (400144, .row false 3 [.int .i64] (E.eI .i64 x238004))] ∧ spec_ReadManifest.l1 n x0 x8 x10 x237000 x237001 x237002 x238000 x238001 x238002 x238003 x238004 = some (r1, r2, r3, r4, r5, r6)) _ (head_ ⟨[0, 2, 6, 7, 8, 10, 22], [2, 22, 7], [], [(2, 0, 3), (2, 4, 3), (7, 0, 3), (7, 4, 3)]⟩ ⟨by omega, _, _, _, _, _, _, _, _, _, _, _, rfl, H⟩ (by cbv) f_ f_) (fun n1 t ht Q1 hN1 hX1 => ?_)); obtain ⟨hle1, x0, x8, x10, x237000, x237001, x237002, x238000, x238001, x238002, x238003, x238004, rfl, H⟩ := ht; obtain ⟨m, hm, H⟩ := spec_ReadManifest.l1_s H; simp only [spec_ReadManifest.l1] at H; (try (conv => cbv)))
    | ((with_reducible refine hN1 _ ⟨_, ?lt, head_ ⟨[0, 2, 6, 7, 8, 10, 22], [2, 22, 7], [], [(2, 0, 3), (2, 4, 3), (7, 0, 3), (7, 4, 3)]⟩ ⟨by omega, _, _, _, _, _, _, _, _, _, _, _, rfl, H⟩ (by cbv) f_ f_⟩); (case lt => omega))
    | ((with_reducible refine hX1 _ _ ne_ret ?_); (try (conv => cbv)))
    | ((with_reducible refine hX1 _ _ (ne_exit _) ?_); (try (conv => cbv)))
    | ((with_reducible first | refine end_ ⟨[2, 3], [2], [], [(2, 0, 3), (2, 4, 3)]⟩ 103 hQ (by cbv) ?_ | refine end_ ⟨[2, 3], [2], [], [(2, 0, 3), (2, 4, 3)]⟩ 103 hQn (by cbv) ?_); (with_reducible have hS := Option.some.inj H); clear hS; cases H; exact f_)
    | contradiction
set_option maxRecDepth 100000 in
set_option maxHeartbeats 4000000 in
theorem spec_l01Figure.con (E : En) (hE : E = E0) {a0 : Int} {r : Int} (H : spec_l01Figure.f a0 = some (r)) :
    Con Tryz.prog TBX 197 [.c (.int .i64 a0)] [] (.c (.int .u8 r)) [] [] := by
  refine con_of Tryz.func197 rfl (by kernel_rfl) tabOk [] (Nat.le_of_ble_eq_true rfl) (fun F hF Q hQ hQn => ?_)
  simp only [spec_l01Figure.f] at H
  (conv => cbv)
  repeat' first
    | replace H := s_ H
    | (rw [itn_iff] at H; obtain ⟨hc, H⟩ := H)
    | (rw [itn2_iff] at H; obtain ⟨hc, H⟩ := H)
    | ((with_reducible refine br_ hF (fun hb => ?_) (fun hb => ?_)) <;> ((try simp only [hF, hE] at hb); (try simp only [hs, vs] at hb); first | rw [if_pos hb] at H | rw [if_neg hb] at H | rw [if_nn hb] at H | replace H := i_ hb H | (simp only [hb, not_t, b_f, not_true_eq_false, not_false_eq_true, Bool.not_true, Bool.not_false, Bool.false_eq_true, if_true, if_false] at H) | skip) <;> (try (conv => cbv)))
    | (refine w_ hF ?_; (try (conv => cbv)))
    | ((with_reducible first | refine end_ ⟨[2], [], [], []⟩ 12 hQ (by cbv) ?_ | refine end_ ⟨[2], [], [], []⟩ 12 hQn (by cbv) ?_); (with_reducible have hS := Option.some.inj H); clear hS; cases H; exact f_)
    | contradiction
theorem spec_Decimal.l0_s {k : Nat} {x0 : Int} {x3 : Bool} {x4 : ByteArray} {r : _} (h : spec_Decimal.l0 k x0 x3 x4 = some r) : ∃ m, k = m + 1 ∧ spec_Decimal.l0 (m + 1) x0 x3 x4 = some r := by
  cases k with
  | zero => simp [spec_Decimal.l0] at h
  | succ m => exact ⟨m, rfl, h⟩
set_option maxRecDepth 100000 in
set_option maxHeartbeats 4000000 in
theorem spec_Decimal.con (E : En) (hE : E = E0) {k : Nat} {a0 : Int} {r : ByteArray} (H : spec_Decimal.f k a0 = some (r)) :
    Con Tryz.prog TBX 132 [.c (.int .i64 a0)] [] (.c (.str r)) [] [] := by
  refine con_of Tryz.func132 rfl (by kernel_rfl) tabOk [] (Nat.le_of_ble_eq_true rfl) (fun F hF Q hQ hQn => ?_)
  simp only [spec_Decimal.f] at H
  (conv => cbv)
  repeat' first
    | replace H := s_ H
    | (rw [itn_iff] at H; obtain ⟨hc, H⟩ := H)
    | (rw [itn2_iff] at H; obtain ⟨hc, H⟩ := H)
    | ((with_reducible refine br_ hF (fun hb => ?_) (fun hb => ?_)) <;> ((try simp only [hF, hE] at hb); (try simp only [hs, vs] at hb); first | rw [if_pos hb] at H | rw [if_neg hb] at H | rw [if_nn hb] at H | replace H := i_ hb H | (simp only [hb, not_t, b_f, not_true_eq_false, not_false_eq_true, Bool.not_true, Bool.not_false, Bool.false_eq_true, if_true, if_false] at H) | skip) <;> (try (conv => cbv)))
    | (refine w_ hF ?_; (try (conv => cbv)))
    | ((with_reducible show Hd.call F 197 _ _ _); rw [bind_iff] at H; obtain ⟨y, hy, H⟩ := H; (try dsimp only at H); refine call_ hF (spec_l01Figure.con E hE hy) f_ f_ ?_; (try (conv => cbv)))
    | ((with_reducible refine loop_ hF (fun n t => n ≤ k ∧ ∃ (x0 : Int) (x3 : Bool) (x4 : ByteArray), t = At 30 [(0, .c (.int .i64 x0)), (3, .c (.bool x3)), (4, .c (.str x4))] [] ∧ spec_Decimal.l0 n x0 x3 x4 = some (r)) _ (head_ ⟨[0, 3, 4], [], [], []⟩ ⟨by omega, _, _, _, rfl, H⟩ (by cbv) f_ f_) (fun n0 t ht Q0 hN0 hX0 => ?_)); obtain ⟨hle0, x0, x3, x4, rfl, H⟩ := ht; obtain ⟨m, hm, H⟩ := spec_Decimal.l0_s H; simp only [spec_Decimal.l0] at H; (try (conv => cbv)))
    | ((with_reducible refine hN0 _ ⟨_, ?lt, head_ ⟨[0, 3, 4], [], [], []⟩ ⟨by omega, _, _, _, rfl, H⟩ (by cbv) f_ f_⟩); (case lt => omega))
    | ((with_reducible refine hX0 _ _ ne_ret ?_); (try (conv => cbv)))
    | ((with_reducible refine hX0 _ _ (ne_exit _) ?_); (try (conv => cbv)))
    | ((with_reducible first | refine end_ ⟨[2], [], [], []⟩ 30 hQ (by cbv) ?_ | refine end_ ⟨[2], [], [], []⟩ 30 hQn (by cbv) ?_); (with_reducible have hS := Option.some.inj H); clear hS; cases H; exact f_)
    | contradiction
set_option maxRecDepth 100000 in
set_option maxHeartbeats 4000000 in
theorem spec_SegName.con (E : En) (hE : E = E0) {k : Nat} {a0 : Int} {r : ByteArray} (H : spec_SegName.f k a0 = some (r)) :
    Con Tryz.prog TBX 61 [.c (.int .i64 a0)] [] (.c (.str r)) [] [] := by
  refine con_of Tryz.func61 rfl (by kernel_rfl) tabOk [] (Nat.le_of_ble_eq_true rfl) (fun F hF Q hQ hQn => ?_)
  simp only [spec_SegName.f] at H
  (conv => cbv)
  repeat' first
    | replace H := s_ H
    | (rw [itn_iff] at H; obtain ⟨hc, H⟩ := H)
    | (rw [itn2_iff] at H; obtain ⟨hc, H⟩ := H)
    | ((with_reducible refine br_ hF (fun hb => ?_) (fun hb => ?_)) <;> ((try simp only [hF, hE] at hb); (try simp only [hs, vs] at hb); first | rw [if_pos hb] at H | rw [if_neg hb] at H | rw [if_nn hb] at H | replace H := i_ hb H | (simp only [hb, not_t, b_f, not_true_eq_false, not_false_eq_true, Bool.not_true, Bool.not_false, Bool.false_eq_true, if_true, if_false] at H) | skip) <;> (try (conv => cbv)))
    | (refine w_ hF ?_; (try (conv => cbv)))
    | ((with_reducible show Hd.call F 131 _ _ _); rw [bind_iff] at H; obtain ⟨y, hy, H⟩ := H; (try dsimp only at H); refine call_ hF (spec_l01In.con E hE hy) f_ f_ ?_; (try (conv => cbv)))
    | ((with_reducible show Hd.call F 132 _ _ _); rw [bind_iff] at H; obtain ⟨y, hy, H⟩ := H; (try dsimp only at H); refine call_ hF (spec_Decimal.con E hE hy) f_ f_ ?_; (try (conv => cbv)))
    | ((with_reducible first | refine end_ ⟨[2], [], [], []⟩ 9 hQ (by cbv) ?_ | refine end_ ⟨[2], [], [], []⟩ 9 hQn (by cbv) ?_); (with_reducible have hS := Option.some.inj H); clear hS; cases H; exact f_)
    | contradiction
set_option maxRecDepth 100000 in
set_option maxHeartbeats 4000000 in
theorem spec_l03Text.con (E : En) (hE : E = E0) {k : Nat} {l0_0 : List S122} {a1 : ByteArray} {r : ByteArray} (H : spec_l03Text.f k l0_0 a1 = some (r)) :
    Con Tryz.prog TBX 60 [.agg [.c (.sl [.str, .str] (E.e122 l0_0))], .c (.str a1)] [] (.c (.str r)) [] [] := by
  refine con_of Tryz.func60 rfl (by kernel_rfl) tabOk [] (Nat.le_of_ble_eq_true rfl) (fun F hF Q hQ hQn => ?_)
  simp only [spec_l03Text.f] at H
  (conv => cbv)
  repeat' first
    | replace H := s_ H
    | (rw [itn_iff] at H; obtain ⟨hc, H⟩ := H)
    | (rw [itn2_iff] at H; obtain ⟨hc, H⟩ := H)
    | ((with_reducible refine br_ hF (fun hb => ?_) (fun hb => ?_)) <;> ((try simp only [hF, hE] at hb); (try simp only [hs, vs] at hb); first | rw [if_pos hb] at H | rw [if_neg hb] at H | rw [if_nn hb] at H | replace H := i_ hb H | (simp only [hb, not_t, b_f, not_true_eq_false, not_false_eq_true, Bool.not_true, Bool.not_false, Bool.false_eq_true, if_true, if_false] at H) | skip) <;> (try (conv => cbv)))
    | (refine w_ hF ?_; (try (conv => cbv)))
    | ((with_reducible show Hd.call F 75 _ _ _); rw [bind_iff] at H; obtain ⟨y, hy, H⟩ := H; (try dsimp only at H); refine call_ hF (spec_l03At.con E hE hy) f_ f_ ?_; (try (conv => cbv)))
    | ((with_reducible first | refine end_ ⟨[4], [], [], []⟩ 17 hQ (by cbv) ?_ | refine end_ ⟨[4], [], [], []⟩ 17 hQn (by cbv) ?_); (with_reducible have hS := Option.some.inj H); clear hS; cases H; exact f_)
    | contradiction
set_option maxRecDepth 100000 in
set_option maxHeartbeats 4000000 in
theorem spec_Frame.con (E : En) (hE : E = E0) {k : Nat} {a0 : ByteArray} {r1 : ByteArray} {r2 : Bool} (H : spec_Frame.f k a0 = some (r1, r2)) :
    Con Tryz.prog TBX 63 [.c (.str a0)] [] (.tup [.c (.str r1), .c (.bool r2)]) [] [] := by
  refine con_of Tryz.func63 rfl (by kernel_rfl) tabOk [] (Nat.le_of_ble_eq_true rfl) (fun F hF Q hQ hQn => ?_)
  simp only [spec_Frame.f] at H
  (conv => cbv)
  repeat' first
    | replace H := s_ H
    | (rw [itn_iff] at H; obtain ⟨hc, H⟩ := H)
    | (rw [itn2_iff] at H; obtain ⟨hc, H⟩ := H)
    | ((with_reducible refine br_ hF (fun hb => ?_) (fun hb => ?_)) <;> ((try simp only [hF, hE] at hb); (try simp only [hs, vs] at hb); first | rw [if_pos hb] at H | rw [if_neg hb] at H | rw [if_nn hb] at H | replace H := i_ hb H | (simp only [hb, not_t, b_f, not_true_eq_false, not_false_eq_true, Bool.not_true, Bool.not_false, Bool.false_eq_true, if_true, if_false] at H) | skip) <;> (try (conv => cbv)))
    | (refine w_ hF ?_; (try (conv => cbv)))
    | ((with_reducible show Hd.call F 131 _ _ _); rw [bind_iff] at H; obtain ⟨y, hy, H⟩ := H; (try dsimp only at H); refine call_ hF (spec_l01In.con E hE hy) f_ f_ ?_; (try (conv => cbv)))
    | ((with_reducible show Hd.call F 136 _ _ _); rw [bind_iff] at H; obtain ⟨y, hy, H⟩ := H; (try dsimp only at H); refine call_ hF (spec_l01Var.con E hE hy) f_ f_ ?_; (try (conv => cbv)))
    | ((with_reducible show Hd.call F 137 _ _ _); rw [bind_iff] at H; obtain ⟨y, hy, H⟩ := H; (try dsimp only at H); refine call_ hF (spec_l02Four.con E hE hy) f_ f_ ?_; (try (conv => cbv)))
    | ((with_reducible show Hd.call F 138 _ _ _); rw [bind_iff] at H; obtain ⟨y, hy, H⟩ := H; (try dsimp only at H); refine call_ hF (spec_SumOf.con E hE hy) f_ f_ ?_; (try (conv => cbv)))
    | ((with_reducible first | refine end_ ⟨[2, 3], [], [], []⟩ 17 hQ (by cbv) ?_ | refine end_ ⟨[2, 3], [], [], []⟩ 17 hQn (by cbv) ?_); (with_reducible have hS := Option.some.inj H); clear hS; cases H; exact f_)
    | contradiction
end Go.Ev

