/- Contracts of the Go functions that this law reaches: what each call returns, by its plain function. No conditions but those that each statement names. By this repo's programs; comments are taken out. -/
import Derived.Test.YtlmicldpfnmeaaaGreatDoorVFnExactOpenShelfD
import Derived.Test.YtlmicldpfnmeaaaGreatDoorVFnExactOpenShelfC12
set_option linter.all false
namespace Go.Ev
open Go.RowKit Go.Proofs Go.Proofs.YtlmicldpfnmeaaaGreatDoorW.PrintWords Go.Proofs.YtlmicldpfnmeaaaGreatDoorW.PrintLast Go.Proofs.YtlmicldpfnmeaaaGreatDoorW.PrintMore
theorem laws_eqRawS.l0_s {k : Nat} {x0 : List S119} {x1 : List S119} {x5 : Int} {r : _} (h : laws_eqRawS.l0 k x0 x1 x5 = some r) : ∃ m, k = m + 1 ∧ laws_eqRawS.l0 (m + 1) x0 x1 x5 = some r := by
  cases k with
  | zero => simp [laws_eqRawS.l0] at h
  | succ m => exact ⟨m, rfl, h⟩
set_option maxRecDepth 100000 in
set_option maxHeartbeats 4000000 in
theorem laws_eqRawS.con (E : En) (hE : E = E0) {k : Nat} {l0 : List S119} {l1 : List S119} {r : Bool} (H : laws_eqRawS.f k l0 l1 = some (r)) :
    Con Tryz.prog TBX 22 [.c (.sl [.int .i64, .str, .str, .str] (E.e119 l0)), .c (.sl [.int .i64, .str, .str, .str] (E.e119 l1))] [] (.c (.bool r)) [] [] := by
  refine con_of Tryz.func22 rfl (by kernel_rfl) tabOk [] (Nat.le_of_ble_eq_true rfl) (fun F hF Q hQ hQn => ?_)
  simp only [laws_eqRawS.f] at H
  (conv => cbv)
  repeat' first
    | replace H := s_ H
    | (rw [itn_iff] at H; obtain ⟨hc, H⟩ := H)
    | (rw [itn2_iff] at H; obtain ⟨hc, H⟩ := H)
    | ((with_reducible refine br_ hF (fun hb => ?_) (fun hb => ?_)) <;> ((try simp only [hF, hE] at hb); (try simp only [hs, vs] at hb); first | rw [if_pos hb] at H | rw [if_neg hb] at H | rw [if_nn hb] at H | replace H := i_ hb H | (simp only [hb, not_t, b_f, not_true_eq_false, not_false_eq_true, Bool.not_true, Bool.not_false, Bool.false_eq_true, if_true, if_false] at H) | skip) <;> (try (conv => cbv)))
    | (refine w_ hF ?_; (try (conv => cbv)))
    | ((with_reducible show Hd.call F 83 _ _ _); rw [bind_iff] at H; obtain ⟨y, hy, H⟩ := H; (try dsimp only at H); refine call_ hF (laws_eqRaw.con E hE hy) f_ f_ ?_; (try (conv => cbv)))
    | ((with_reducible refine loop_ hF (fun n t => n ≤ k ∧ ∃ (x0 : List S119) (x1 : List S119) (x5 : Int), t = At 27 [(0, .c (.sl [.int .i64, .str, .str, .str] (E.e119 x0))), (1, .c (.sl [.int .i64, .str, .str, .str] (E.e119 x1))), (5, .c (.int .i64 x5))] [] ∧ laws_eqRawS.l0 n x0 x1 x5 = some (r)) _ (head_ ⟨[0, 1, 5], [], [], []⟩ ⟨by omega, _, _, _, rfl, H⟩ (by cbv) f_ f_) (fun n0 t ht Q0 hN0 hX0 => ?_)); obtain ⟨hle0, x0, x1, x5, rfl, H⟩ := ht; obtain ⟨m, hm, H⟩ := laws_eqRawS.l0_s H; simp only [laws_eqRawS.l0] at H; (try (conv => cbv)))
    | ((with_reducible refine hN0 _ ⟨_, ?lt, head_ ⟨[0, 1, 5], [], [], []⟩ ⟨by omega, _, _, _, rfl, H⟩ (by cbv) f_ f_⟩); (case lt => omega))
    | ((with_reducible refine hX0 _ _ ne_ret ?_); (try (conv => cbv)))
    | ((with_reducible refine hX0 _ _ (ne_exit _) ?_); (try (conv => cbv)))
    | ((with_reducible first | refine end_ ⟨[4], [], [], []⟩ 27 hQ (by cbv) ?_ | refine end_ ⟨[4], [], [], []⟩ 27 hQn (by cbv) ?_); (with_reducible have hS := Option.some.inj H); clear hS; cases H; exact f_)
    | contradiction
set_option maxRecDepth 100000 in
set_option maxHeartbeats 4000000 in
theorem laws_eqFile.con (E : En) (hE : E = E0) {a0_0 : ByteArray} {a0_1 : ByteArray} {a1_0 : ByteArray} {a1_1 : ByteArray} {r : Bool} (H : laws_eqFile.f a0_0 a0_1 a1_0 a1_1 = some (r)) :
    Con Tryz.prog TBX 148 [.agg [.c (.str a0_0), .c (.str a0_1)], .agg [.c (.str a1_0), .c (.str a1_1)]] [] (.c (.bool r)) [] [] := by
  refine con_of Tryz.func148 rfl (by kernel_rfl) tabOk [] (Nat.le_of_ble_eq_true rfl) (fun F hF Q hQ hQn => ?_)
  simp only [laws_eqFile.f] at H
  (conv => cbv)
  repeat' first
    | replace H := s_ H
    | (rw [itn_iff] at H; obtain ⟨hc, H⟩ := H)
    | (rw [itn2_iff] at H; obtain ⟨hc, H⟩ := H)
    | ((with_reducible refine br_ hF (fun hb => ?_) (fun hb => ?_)) <;> ((try simp only [hF, hE] at hb); (try simp only [hs, vs] at hb); first | rw [if_pos hb] at H | rw [if_neg hb] at H | rw [if_nn hb] at H | replace H := i_ hb H | (simp only [hb, not_t, b_f, not_true_eq_false, not_false_eq_true, Bool.not_true, Bool.not_false, Bool.false_eq_true, if_true, if_false] at H) | skip) <;> (try (conv => cbv)))
    | (refine w_ hF ?_; (try (conv => cbv)))
    | ((with_reducible first | refine end_ ⟨[4], [], [], []⟩ 15 hQ (by cbv) ?_ | refine end_ ⟨[4], [], [], []⟩ 15 hQn (by cbv) ?_); (with_reducible have hS := Option.some.inj H); clear hS; cases H; exact f_)
    | contradiction
theorem laws_eqFileS.l0_s {k : Nat} {x0 : List S122} {x1 : List S122} {x5 : Int} {r : _} (h : laws_eqFileS.l0 k x0 x1 x5 = some r) : ∃ m, k = m + 1 ∧ laws_eqFileS.l0 (m + 1) x0 x1 x5 = some r := by
  cases k with
  | zero => simp [laws_eqFileS.l0] at h
  | succ m => exact ⟨m, rfl, h⟩
set_option maxRecDepth 100000 in
set_option maxHeartbeats 4000000 in
theorem laws_eqFileS.con (E : En) (hE : E = E0) {k : Nat} {l0 : List S122} {l1 : List S122} {r : Bool} (H : laws_eqFileS.f k l0 l1 = some (r)) :
    Con Tryz.prog TBX 71 [.c (.sl [.str, .str] (E.e122 l0)), .c (.sl [.str, .str] (E.e122 l1))] [] (.c (.bool r)) [] [] := by
  refine con_of Tryz.func71 rfl (by kernel_rfl) tabOk [] (Nat.le_of_ble_eq_true rfl) (fun F hF Q hQ hQn => ?_)
  simp only [laws_eqFileS.f] at H
  (conv => cbv)
  repeat' first
    | replace H := s_ H
    | (rw [itn_iff] at H; obtain ⟨hc, H⟩ := H)
    | (rw [itn2_iff] at H; obtain ⟨hc, H⟩ := H)
    | ((with_reducible refine br_ hF (fun hb => ?_) (fun hb => ?_)) <;> ((try simp only [hF, hE] at hb); (try simp only [hs, vs] at hb); first | rw [if_pos hb] at H | rw [if_neg hb] at H | rw [if_nn hb] at H | replace H := i_ hb H | (simp only [hb, not_t, b_f, not_true_eq_false, not_false_eq_true, Bool.not_true, Bool.not_false, Bool.false_eq_true, if_true, if_false] at H) | skip) <;> (try (conv => cbv)))
    | (refine w_ hF ?_; (try (conv => cbv)))
    | ((with_reducible show Hd.call F 148 _ _ _); rw [bind_iff] at H; obtain ⟨y, hy, H⟩ := H; (try dsimp only at H); refine call_ hF (laws_eqFile.con E hE hy) f_ f_ ?_; (try (conv => cbv)))
    | ((with_reducible refine loop_ hF (fun n t => n ≤ k ∧ ∃ (x0 : List S122) (x1 : List S122) (x5 : Int), t = At 27 [(0, .c (.sl [.str, .str] (E.e122 x0))), (1, .c (.sl [.str, .str] (E.e122 x1))), (5, .c (.int .i64 x5))] [] ∧ laws_eqFileS.l0 n x0 x1 x5 = some (r)) _ (head_ ⟨[0, 1, 5], [], [], []⟩ ⟨by omega, _, _, _, rfl, H⟩ (by cbv) f_ f_) (fun n0 t ht Q0 hN0 hX0 => ?_)); obtain ⟨hle0, x0, x1, x5, rfl, H⟩ := ht; obtain ⟨m, hm, H⟩ := laws_eqFileS.l0_s H; simp only [laws_eqFileS.l0] at H; (try (conv => cbv)))
    | ((with_reducible refine hN0 _ ⟨_, ?lt, head_ ⟨[0, 1, 5], [], [], []⟩ ⟨by omega, _, _, _, rfl, H⟩ (by cbv) f_ f_⟩); (case lt => omega))
    | ((with_reducible refine hX0 _ _ ne_ret ?_); (try (conv => cbv)))
    | ((with_reducible refine hX0 _ _ (ne_exit _) ?_); (try (conv => cbv)))
    | ((with_reducible first | refine end_ ⟨[4], [], [], []⟩ 27 hQ (by cbv) ?_ | refine end_ ⟨[4], [], [], []⟩ 27 hQn (by cbv) ?_); (with_reducible have hS := Option.some.inj H); clear hS; cases H; exact f_)
    | contradiction
set_option maxRecDepth 100000 in
set_option maxHeartbeats 4000000 in
theorem laws_eqDisk.con (E : En) (hE : E = E0) {k : Nat} {l0_0 : List S122} {l1_0 : List S122} {r : Bool} (H : laws_eqDisk.f k l0_0 l1_0 = some (r)) :
    Con Tryz.prog TBX 18 [.agg [.c (.sl [.str, .str] (E.e122 l0_0))], .agg [.c (.sl [.str, .str] (E.e122 l1_0))]] [] (.c (.bool r)) [] [] := by
  refine con_of Tryz.func18 rfl (by kernel_rfl) tabOk [] (Nat.le_of_ble_eq_true rfl) (fun F hF Q hQ hQn => ?_)
  simp only [laws_eqDisk.f] at H
  (conv => cbv)
  repeat' first
    | replace H := s_ H
    | (rw [itn_iff] at H; obtain ⟨hc, H⟩ := H)
    | (rw [itn2_iff] at H; obtain ⟨hc, H⟩ := H)
    | ((with_reducible refine br_ hF (fun hb => ?_) (fun hb => ?_)) <;> ((try simp only [hF, hE] at hb); (try simp only [hs, vs] at hb); first | rw [if_pos hb] at H | rw [if_neg hb] at H | rw [if_nn hb] at H | replace H := i_ hb H | (simp only [hb, not_t, b_f, not_true_eq_false, not_false_eq_true, Bool.not_true, Bool.not_false, Bool.false_eq_true, if_true, if_false] at H) | skip) <;> (try (conv => cbv)))
    | (refine w_ hF ?_; (try (conv => cbv)))
    | ((with_reducible show Hd.call F 71 _ _ _); rw [bind_iff] at H; obtain ⟨y, hy, H⟩ := H; (try dsimp only at H); refine call_ hF (laws_eqFileS.con E hE hy) f_ f_ ?_; (try (conv => cbv)))
    | ((with_reducible first | refine end_ ⟨[4], [], [], []⟩ 11 hQ (by cbv) ?_ | refine end_ ⟨[4], [], [], []⟩ 11 hQn (by cbv) ?_); (with_reducible have hS := Option.some.inj H); clear hS; cases H; exact f_)
    | contradiction
theorem laws_markText.l0_s {k : Nat} {x0 : Int} {x3 : ByteArray} {r : _} (h : laws_markText.l0 k x0 x3 = some r) : ∃ m, k = m + 1 ∧ laws_markText.l0 (m + 1) x0 x3 = some r := by
  cases k with
  | zero => simp [laws_markText.l0] at h
  | succ m => exact ⟨m, rfl, h⟩
set_option maxRecDepth 100000 in
set_option maxHeartbeats 4000000 in
theorem laws_markText.con (E : En) (hE : E = E0) {k : Nat} {a0 : Int} {r : ByteArray} (H : laws_markText.f k a0 = some r) :
    Con Tryz.prog TBX 87 [.c (.int .i64 a0)] [] (.c (.str r)) [] [] := by
  refine con_of Tryz.func87 rfl (by kernel_rfl) tabOkM [] (Nat.le_of_ble_eq_true rfl) (fun F hF Q hQ hQn => ?_)
  simp only [laws_markText.f] at H
  (conv => cbv)
  repeat' first
    | replace H := s_ H
    | (rw [itn_iff] at H; obtain ⟨hc, H⟩ := H)
    | (rw [itn2_iff] at H; obtain ⟨hc, H⟩ := H)
    | ((with_reducible refine br_ hF (fun hb => ?_) (fun hb => ?_)) <;> ((try simp only [hF, hE] at hb); (try simp only [hs, vs] at hb); first | rw [if_pos hb] at H | rw [if_neg hb] at H | rw [if_nn hb] at H | replace H := i_ hb H | (simp only [hb, not_t, b_f, not_true_eq_false, not_false_eq_true, Bool.not_true, Bool.not_false, Bool.false_eq_true, if_true, if_false] at H) | skip) <;> (try (conv => cbv)))
    | (refine w_ hF ?_; (try (conv => cbv)))
    | ((with_reducible refine loop_ hF (fun n t => n ≤ k ∧ ∃ (x0 : Int) (x3 : ByteArray), t = At 20 [(0, .c (.int .i64 x0)), (3, .c (.str x3))] [] ∧ laws_markText.l0 n x0 x3 = some r) _ (head_ ⟨[0, 3], [], [], []⟩ ⟨by omega, _, _, rfl, H⟩ (by cbv) f_ f_) (fun n0 t ht Q0 hN0 hX0 => ?_)); obtain ⟨hle0, x0, x3, rfl, H⟩ := ht; obtain ⟨m, hm, H⟩ := laws_markText.l0_s H; simp only [laws_markText.l0] at H; (try (conv => cbv)))
    | ((with_reducible refine hN0 _ ⟨_, ?lt, head_ ⟨[0, 3], [], [], []⟩ ⟨by omega, _, _, rfl, H⟩ (by cbv) f_ f_⟩); (case lt => omega))
    | ((with_reducible refine hX0 _ _ ne_ret ?_); (try (conv => cbv)))
    | ((with_reducible refine hX0 _ _ (ne_exit _) ?_); (try (conv => cbv)))
    | ((with_reducible first | refine end_ ⟨[2], [], [], []⟩ 20 hQ (by cbv) ?_ | refine end_ ⟨[2], [], [], []⟩ 20 hQn (by cbv) ?_); (with_reducible have hS := Option.some.inj H); clear hS; cases H; exact f_)
    | contradiction
theorem laws_markFileS.l0_s {k : Nat} {w0 : List S122} {x1 : Int} {x5 : Int} {r : _} (h : laws_markFileS.l0 k w0 x1 x5 = some r) : ∃ m, k = m + 1 ∧ laws_markFileS.l0 (m + 1) w0 x1 x5 = some r := by
  cases k with
  | zero => simp [laws_markFileS.l0] at h
  | succ m => exact ⟨m, rfl, h⟩
set_option maxRecDepth 100000 in
set_option maxHeartbeats 4000000 in
theorem laws_markFileS.con (E : En) (hE : E = E0) {k : Nat} {l0 : List S122} {a1 : Int} {r1 : Int} {r2 : List S122} (H : laws_markFileS.f k l0 a1 = some (r1, r2)) :
    Con Tryz.prog TBX 84 [.own 10000, .c (.int .i64 a1)] [.row false 122 [.str, .str] (E.e122 l0)] (.c (.int .i64 r1)) [] [.row false 122 [.str, .str] (E.e122 r2)] := by
  refine con_of Tryz.func84 rfl (by kernel_rfl) tabOkM [] (Nat.le_of_ble_eq_true rfl) (fun F hF Q hQ hQn => ?_)
  simp only [laws_markFileS.f] at H
  (conv => cbv)
  repeat' first
    | replace H := s_ H
    | (rw [itn_iff] at H; obtain ⟨hc, H⟩ := H)
    | (rw [itn2_iff] at H; obtain ⟨hc, H⟩ := H)
    | ((with_reducible refine br_ hF (fun hb => ?_) (fun hb => ?_)) <;> ((try simp only [hF, hE] at hb); (try simp only [hs, vs] at hb); first | rw [if_pos hb] at H | rw [if_neg hb] at H | rw [if_nn hb] at H | replace H := i_ hb H | (simp only [hb, not_t, b_f, not_true_eq_false, not_false_eq_true, Bool.not_true, Bool.not_false, Bool.false_eq_true, if_true, if_false] at H) | skip) <;> (try (conv => cbv)))
    | (refine w_ hF ?_; (try (conv => cbv)))
    | ((with_reducible show Hd.call F 87 _ _ _); rw [bind_iff] at H; obtain ⟨y, hy, H⟩ := H; (try dsimp only at H); refine call_ hF (laws_markText.con E hE hy) f_ f_ ?_; (try (conv => cbv)))
    | ((with_reducible refine loop_ hF (fun n t => n ≤ k ∧ ∃ (w0 : List S122) (x1 : Int) (x5 : Int), t = At 29 [(0, .own 10000), (1, .c (.int .i64 x1)), (5, .c (.int .i64 x5))] [(10000, .row false 122 [.str, .str] (E.e122 w0))] ∧ laws_markFileS.l0 n w0 x1 x5 = some (r1, r2)) _ (head_ ⟨[0, 1, 5], [], [], []⟩ ⟨by omega, _, _, _, rfl, H⟩ (by cbv) f_ f_) (fun n0 t ht Q0 hN0 hX0 => ?_)); obtain ⟨hle0, w0, x1, x5, rfl, H⟩ := ht; obtain ⟨m, hm, H⟩ := laws_markFileS.l0_s H; simp only [laws_markFileS.l0] at H; (try (conv => cbv)))
    | ((with_reducible refine hN0 _ ⟨_, ?lt, head_ ⟨[0, 1, 5], [], [], []⟩ ⟨by omega, _, _, _, rfl, H⟩ (by cbv) f_ f_⟩); (case lt => omega))
    | ((with_reducible refine hX0 _ _ ne_ret ?_); (try (conv => cbv)))
    | ((with_reducible refine hX0 _ _ (ne_exit _) ?_); (try (conv => cbv)))
    | ((with_reducible first | refine end_ ⟨[4], [], [], []⟩ 29 hQ (by cbv) ?_ | refine end_ ⟨[4], [], [], []⟩ 29 hQn (by cbv) ?_); (with_reducible have hS := Option.some.inj H); clear hS; cases H; exact f_)
    | contradiction
set_option maxRecDepth 100000 in
set_option maxHeartbeats 4000000 in
theorem laws_markDisk.con (E : En) (hE : E = E0) {k : Nat} {l0_0 : List S122} {a1 : Int} {r1 : Int} {r2 : List S122} (H : laws_markDisk.f k l0_0 a1 = some (r1, r2)) :
    Con Tryz.prog TBX 23 [.agg [.own 10000], .c (.int .i64 a1)] [.row false 122 [.str, .str] (E.e122 l0_0)] (.c (.int .i64 r1)) [] [.row false 122 [.str, .str] (E.e122 r2)] := by
  refine con_of Tryz.func23 rfl (by kernel_rfl) tabOkM [] (Nat.le_of_ble_eq_true rfl) (fun F hF Q hQ hQn => ?_)
  simp only [laws_markDisk.f] at H
  (conv => cbv)
  repeat' first
    | replace H := s_ H
    | (rw [itn_iff] at H; obtain ⟨hc, H⟩ := H)
    | (rw [itn2_iff] at H; obtain ⟨hc, H⟩ := H)
    | ((with_reducible refine br_ hF (fun hb => ?_) (fun hb => ?_)) <;> ((try simp only [hF, hE] at hb); (try simp only [hs, vs] at hb); first | rw [if_pos hb] at H | rw [if_neg hb] at H | rw [if_nn hb] at H | replace H := i_ hb H | (simp only [hb, not_t, b_f, not_true_eq_false, not_false_eq_true, Bool.not_true, Bool.not_false, Bool.false_eq_true, if_true, if_false] at H) | skip) <;> (try (conv => cbv)))
    | (refine w_ hF ?_; (try (conv => cbv)))
    | ((with_reducible show Hd.call F 84 _ _ _); rw [bind_iff] at H; obtain ⟨⟨y1, y2⟩, hy, H⟩ := H; (try dsimp only at H); refine call_ hF (laws_markFileS.con E hE hy) f_ f_ ?_; (try (conv => cbv)))
    | ((with_reducible first | refine end_ ⟨[4], [], [], []⟩ 10 hQ (by cbv) ?_ | refine end_ ⟨[4], [], [], []⟩ 10 hQn (by cbv) ?_); (with_reducible have hS := Option.some.inj H); clear hS; cases H; exact f_)
    | contradiction
theorem laws_markIntS.l0_s {k : Nat} {w0 : List Int} {x1 : Int} {x5 : Int} {r : _} (h : laws_markIntS.l0 k w0 x1 x5 = some r) : ∃ m, k = m + 1 ∧ laws_markIntS.l0 (m + 1) w0 x1 x5 = some r := by
  cases k with
  | zero => simp [laws_markIntS.l0] at h
  | succ m => exact ⟨m, rfl, h⟩
set_option maxRecDepth 100000 in
set_option maxHeartbeats 4000000 in
theorem laws_markIntS.con (E : En) (hE : E = E0) {k : Nat} {l0 : List Int} {a1 : Int} {r1 : Int} {r2 : List Int} (H : laws_markIntS.f k l0 a1 = some (r1, r2)) :
    Con Tryz.prog TBX 47 [.own 10000, .c (.int .i64 a1)] [.row false 3 [.int .i64] (E.eI .i64 l0)] (.c (.int .i64 r1)) [] [.row false 3 [.int .i64] (E.eI .i64 r2)] := by
  refine con_of Tryz.func47 rfl (by kernel_rfl) tabOkM [] (Nat.le_of_ble_eq_true rfl) (fun F hF Q hQ hQn => ?_)
  simp only [laws_markIntS.f] at H
  (conv => cbv)
  repeat' first
    | replace H := s_ H
    | (rw [itn_iff] at H; obtain ⟨hc, H⟩ := H)
    | (rw [itn2_iff] at H; obtain ⟨hc, H⟩ := H)
    | ((with_reducible refine br_ hF (fun hb => ?_) (fun hb => ?_)) <;> ((try simp only [hF, hE] at hb); (try simp only [hs, vs] at hb); first | rw [if_pos hb] at H | rw [if_neg hb] at H | rw [if_nn hb] at H | replace H := i_ hb H | (simp only [hb, not_t, b_f, not_true_eq_false, not_false_eq_true, Bool.not_true, Bool.not_false, Bool.false_eq_true, if_true, if_false] at H) | skip) <;> (try (conv => cbv)))
    | (refine w_ hF ?_; (try (conv => cbv)))
    | ((with_reducible refine loop_ hF (fun n t => n ≤ k ∧ ∃ (w0 : List Int) (x1 : Int) (x5 : Int), t = At 19 [(0, .own 10000), (1, .c (.int .i64 x1)), (5, .c (.int .i64 x5))] [(10000, .row false 3 [.int .i64] (E.eI .i64 w0))] ∧ laws_markIntS.l0 n w0 x1 x5 = some (r1, r2)) _ (head_ ⟨[0, 1, 5], [], [], []⟩ ⟨by omega, _, _, _, rfl, H⟩ (by cbv) f_ f_) (fun n0 t ht Q0 hN0 hX0 => ?_)); obtain ⟨hle0, w0, x1, x5, rfl, H⟩ := ht; obtain ⟨m, hm, H⟩ := laws_markIntS.l0_s H; simp only [laws_markIntS.l0] at H; (try (conv => cbv)))
    | ((with_reducible refine hN0 _ ⟨_, ?lt, head_ ⟨[0, 1, 5], [], [], []⟩ ⟨by omega, _, _, _, rfl, H⟩ (by cbv) f_ f_⟩); (case lt => omega))
    | ((with_reducible refine hX0 _ _ ne_ret ?_); (try (conv => cbv)))
    | ((with_reducible refine hX0 _ _ (ne_exit _) ?_); (try (conv => cbv)))
    | ((with_reducible first | refine end_ ⟨[4], [], [], []⟩ 19 hQ (by cbv) ?_ | refine end_ ⟨[4], [], [], []⟩ 19 hQn (by cbv) ?_); (with_reducible have hS := Option.some.inj H); clear hS; cases H; exact f_)
    | contradiction
set_option maxRecDepth 100000 in
set_option maxHeartbeats 4000000 in
theorem laws_markManifest.con (E : En) (hE : E = E0) {k : Nat} {l0_0 : List Int} {a0_1 : Int} {a0_2 : Int} {a0_3 : Int} {l0_4 : List Int} {a1 : Int} {r1 : Int} {r2 : List Int} {r3 : List Int} (H : laws_markManifest.f k l0_0 a0_1 a0_2 a0_3 l0_4 a1 = some (r1, r2, r3)) :
    Con Tryz.prog TBX 85 [.agg [.own 10000, .c (.int .i64 a0_1), .c (.int .i64 a0_2), .c (.int .i64 a0_3), .own 10001], .c (.int .i64 a1)] [.row false 3 [.int .i64] (E.eI .i64 l0_0), .row false 3 [.int .i64] (E.eI .i64 l0_4)] (.c (.int .i64 r1)) [] [.row false 3 [.int .i64] (E.eI .i64 r2), .row false 3 [.int .i64] (E.eI .i64 r3)] := by
  refine con_of Tryz.func85 rfl (by kernel_rfl) tabOkM [] (Nat.le_of_ble_eq_true rfl) (fun F hF Q hQ hQn => ?_)
  simp only [laws_markManifest.f] at H
  (conv => cbv)
  repeat' first
    | replace H := s_ H
    | (rw [itn_iff] at H; obtain ⟨hc, H⟩ := H)
    | (rw [itn2_iff] at H; obtain ⟨hc, H⟩ := H)
    | ((with_reducible refine br_ hF (fun hb => ?_) (fun hb => ?_)) <;> ((try simp only [hF, hE] at hb); (try simp only [hs, vs] at hb); first | rw [if_pos hb] at H | rw [if_neg hb] at H | rw [if_nn hb] at H | replace H := i_ hb H | (simp only [hb, not_t, b_f, not_true_eq_false, not_false_eq_true, Bool.not_true, Bool.not_false, Bool.false_eq_true, if_true, if_false] at H) | skip) <;> (try (conv => cbv)))
    | (refine w_ hF ?_; (try (conv => cbv)))
    | ((with_reducible show Hd.call F 47 _ _ _); rw [bind_iff] at H; obtain ⟨⟨y1, y2⟩, hy, H⟩ := H; (try dsimp only at H); refine call_ hF (laws_markIntS.con E hE hy) f_ f_ ?_; (try (conv => cbv)))
    | ((with_reducible first | refine end_ ⟨[4], [], [], []⟩ 14 hQ (by cbv) ?_ | refine end_ ⟨[4], [], [], []⟩ 14 hQn (by cbv) ?_); (with_reducible have hS := Option.some.inj H); clear hS; cases H; exact f_)
    | contradiction
theorem laws_markSpotS.l0_s {k : Nat} {w0 : List S145} {x1 : Int} {x5 : Int} {r : _} (h : laws_markSpotS.l0 k w0 x1 x5 = some r) : ∃ m, k = m + 1 ∧ laws_markSpotS.l0 (m + 1) w0 x1 x5 = some r := by
  cases k with
  | zero => simp [laws_markSpotS.l0] at h
  | succ m => exact ⟨m, rfl, h⟩
set_option maxRecDepth 100000 in
set_option maxHeartbeats 4000000 in
theorem laws_markSpotS.con (E : En) (hE : E = E0) {k : Nat} {l0 : List S145} {a1 : Int} {r1 : Int} {r2 : List S145} (H : laws_markSpotS.f k l0 a1 = some (r1, r2)) :
    Con Tryz.prog TBX 86 [.own 10000, .c (.int .i64 a1)] [.row false 145 [.str, .int .i64, .int .i64, .int .i64] (E.e145 l0)] (.c (.int .i64 r1)) [] [.row false 145 [.str, .int .i64, .int .i64, .int .i64] (E.e145 r2)] := by
  refine con_of Tryz.func86 rfl (by kernel_rfl) tabOkM [] (Nat.le_of_ble_eq_true rfl) (fun F hF Q hQ hQn => ?_)
  simp only [laws_markSpotS.f] at H
  (conv => cbv)
  repeat' first
    | replace H := s_ H
    | (rw [itn_iff] at H; obtain ⟨hc, H⟩ := H)
    | (rw [itn2_iff] at H; obtain ⟨hc, H⟩ := H)
    | ((with_reducible refine br_ hF (fun hb => ?_) (fun hb => ?_)) <;> ((try simp only [hF, hE] at hb); (try simp only [hs, vs] at hb); first | rw [if_pos hb] at H | rw [if_neg hb] at H | rw [if_nn hb] at H | replace H := i_ hb H | (simp only [hb, not_t, b_f, not_true_eq_false, not_false_eq_true, Bool.not_true, Bool.not_false, Bool.false_eq_true, if_true, if_false] at H) | skip) <;> (try (conv => cbv)))
    | (refine w_ hF ?_; (try (conv => cbv)))
    | ((with_reducible show Hd.call F 87 _ _ _); rw [bind_iff] at H; obtain ⟨y, hy, H⟩ := H; (try dsimp only at H); refine call_ hF (laws_markText.con E hE hy) f_ f_ ?_; (try (conv => cbv)))
    | ((with_reducible refine loop_ hF (fun n t => n ≤ k ∧ ∃ (w0 : List S145) (x1 : Int) (x5 : Int), t = At 42 [(0, .own 10000), (1, .c (.int .i64 x1)), (5, .c (.int .i64 x5))] [(10000, .row false 145 [.str, .int .i64, .int .i64, .int .i64] (E.e145 w0))] ∧ laws_markSpotS.l0 n w0 x1 x5 = some (r1, r2)) _ (head_ ⟨[0, 1, 5], [], [], []⟩ ⟨by omega, _, _, _, rfl, H⟩ (by cbv) f_ f_) (fun n0 t ht Q0 hN0 hX0 => ?_)); obtain ⟨hle0, w0, x1, x5, rfl, H⟩ := ht; obtain ⟨m, hm, H⟩ := laws_markSpotS.l0_s H; simp only [laws_markSpotS.l0] at H; (try (conv => cbv)))
    | ((with_reducible refine hN0 _ ⟨_, ?lt, head_ ⟨[0, 1, 5], [], [], []⟩ ⟨by omega, _, _, _, rfl, H⟩ (by cbv) f_ f_⟩); (case lt => omega))
    | ((with_reducible refine hX0 _ _ ne_ret ?_); (try (conv => cbv)))
    | ((with_reducible refine hX0 _ _ (ne_exit _) ?_); (try (conv => cbv)))
    | ((with_reducible first | refine end_ ⟨[4], [], [], []⟩ 42 hQ (by cbv) ?_ | refine end_ ⟨[4], [], [], []⟩ 42 hQn (by cbv) ?_); (with_reducible have hS := Option.some.inj H); clear hS; cases H; exact f_)
    | contradiction
end Go.Ev

