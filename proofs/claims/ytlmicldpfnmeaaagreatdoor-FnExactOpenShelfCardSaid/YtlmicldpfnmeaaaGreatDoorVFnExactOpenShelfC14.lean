/- Contracts of the Go functions that this law reaches: what each call returns, by its plain function. No conditions but those that each statement names. By this repo's programs; comments are taken out. -/
import Derived.Test.YtlmicldpfnmeaaaGreatDoorVFnExactOpenShelfD
import Derived.Test.YtlmicldpfnmeaaaGreatDoorVFnExactOpenShelfC0
import Derived.Test.YtlmicldpfnmeaaaGreatDoorVFnExactOpenShelfC6
import Derived.Test.YtlmicldpfnmeaaaGreatDoorVFnExactOpenShelfC12
import Derived.Test.YtlmicldpfnmeaaaGreatDoorVFnExactOpenShelfC13
set_option linter.all false
namespace Go.Ev
open Go.RowKit Go.Proofs Go.Proofs.YtlmicldpfnmeaaaGreatDoorW.PrintWords Go.Proofs.YtlmicldpfnmeaaaGreatDoorW.PrintLast Go.Proofs.YtlmicldpfnmeaaaGreatDoorW.PrintMore
set_option maxRecDepth 100000 in
set_option maxHeartbeats 4000000 in
theorem laws_markShelf.con (E : En) (hE : E = E0) {k : Nat} {l0_0 : List Int} {a0_1 : Int} {a0_2 : Int} {a0_3 : Int} {l0_4 : List Int} {l0_5 : List S145} {a0_6 : Int} {a1 : Int} {r1 : Int} {r2 : List Int} {r3 : List Int} {r4 : List S145} (H : laws_markShelf.f k l0_0 a0_1 a0_2 a0_3 l0_4 l0_5 a0_6 a1 = some (r1, r2, r3, r4)) :
    Con Tryz.prog TBX 24 [.agg [.own 10000, .c (.int .i64 a0_1), .c (.int .i64 a0_2), .c (.int .i64 a0_3), .own 10001, .own 10002, .c (.int .i64 a0_6)], .c (.int .i64 a1)] [.row false 3 [.int .i64] (E.eI .i64 l0_0), .row false 3 [.int .i64] (E.eI .i64 l0_4), .row false 145 [.str, .int .i64, .int .i64, .int .i64] (E.e145 l0_5)] (.c (.int .i64 r1)) [] [.row false 3 [.int .i64] (E.eI .i64 r2), .row false 3 [.int .i64] (E.eI .i64 r3), .row false 145 [.str, .int .i64, .int .i64, .int .i64] (E.e145 r4)] := by
  refine con_of Tryz.func24 rfl (by kernel_rfl) tabOkM [] (Nat.le_of_ble_eq_true rfl) (fun F hF Q hQ hQn => ?_)
  simp only [laws_markShelf.f] at H
  (conv => cbv)
  repeat' first
    | replace H := s_ H
    | (rw [itn_iff] at H; obtain ⟨hc, H⟩ := H)
    | (rw [itn2_iff] at H; obtain ⟨hc, H⟩ := H)
    | ((with_reducible refine br_ hF (fun hb => ?_) (fun hb => ?_)) <;> ((try simp only [hF, hE] at hb); (try simp only [hs, vs] at hb); first | rw [if_pos hb] at H | rw [if_neg hb] at H | rw [if_nn hb] at H | replace H := i_ hb H | (simp only [hb, not_t, b_f, not_true_eq_false, not_false_eq_true, Bool.not_true, Bool.not_false, Bool.false_eq_true, if_true, if_false] at H) | skip) <;> (try (conv => cbv)))
    | (refine w_ hF ?_; (try (conv => cbv)))
    | ((with_reducible show Hd.call F 85 _ _ _); rw [bind_iff] at H; obtain ⟨⟨y1, y2, y3⟩, hy, H⟩ := H; (try dsimp only at H); refine call_ hF (laws_markManifest.con E hE hy) f_ f_ ?_; (try (conv => cbv)))
    | ((with_reducible show Hd.call F 86 _ _ _); rw [bind_iff] at H; obtain ⟨⟨y1, y2⟩, hy, H⟩ := H; (try dsimp only at H); refine call_ hF (laws_markSpotS.con E hE hy) f_ f_ ?_; (try (conv => cbv)))
    | ((with_reducible first | refine end_ ⟨[4], [], [], []⟩ 14 hQ (by cbv) ?_ | refine end_ ⟨[4], [], [], []⟩ 14 hQn (by cbv) ?_); (with_reducible have hS := Option.some.inj H); clear hS; cases H; exact f_)
    | contradiction
theorem laws_markRawS.l0_s {k : Nat} {w0 : List S119} {x1 : Int} {x5 : Int} {r : _} (h : laws_markRawS.l0 k w0 x1 x5 = some r) : ∃ m, k = m + 1 ∧ laws_markRawS.l0 (m + 1) w0 x1 x5 = some r := by
  cases k with
  | zero => simp [laws_markRawS.l0] at h
  | succ m => exact ⟨m, rfl, h⟩
set_option maxRecDepth 100000 in
set_option maxHeartbeats 4000000 in
theorem laws_markRawS.con (E : En) (hE : E = E0) {k : Nat} {l0 : List S119} {a1 : Int} {r1 : Int} {r2 : List S119} (H : laws_markRawS.f k l0 a1 = some (r1, r2)) :
    Con Tryz.prog TBX 25 [.own 10000, .c (.int .i64 a1)] [.row false 119 [.int .i64, .str, .str, .str] (E.e119 l0)] (.c (.int .i64 r1)) [] [.row false 119 [.int .i64, .str, .str, .str] (E.e119 r2)] := by
  refine con_of Tryz.func25 rfl (by kernel_rfl) tabOkM [] (Nat.le_of_ble_eq_true rfl) (fun F hF Q hQ hQn => ?_)
  simp only [laws_markRawS.f] at H
  (conv => cbv)
  repeat' first
    | replace H := s_ H
    | (rw [itn_iff] at H; obtain ⟨hc, H⟩ := H)
    | (rw [itn2_iff] at H; obtain ⟨hc, H⟩ := H)
    | ((with_reducible refine br_ hF (fun hb => ?_) (fun hb => ?_)) <;> ((try simp only [hF, hE] at hb); (try simp only [hs, vs] at hb); first | rw [if_pos hb] at H | rw [if_neg hb] at H | rw [if_nn hb] at H | replace H := i_ hb H | (simp only [hb, not_t, b_f, not_true_eq_false, not_false_eq_true, Bool.not_true, Bool.not_false, Bool.false_eq_true, if_true, if_false] at H) | skip) <;> (try (conv => cbv)))
    | (refine w_ hF ?_; (try (conv => cbv)))
    | ((with_reducible show Hd.call F 87 _ _ _); rw [bind_iff] at H; obtain ⟨y, hy, H⟩ := H; (try dsimp only at H); refine call_ hF (laws_markText.con E hE hy) f_ f_ ?_; (try (conv => cbv)))
    | ((with_reducible refine loop_ hF (fun n t => n ≤ k ∧ ∃ (w0 : List S119) (x1 : Int) (x5 : Int), t = At 44 [(0, .own 10000), (1, .c (.int .i64 x1)), (5, .c (.int .i64 x5))] [(10000, .row false 119 [.int .i64, .str, .str, .str] (E.e119 w0))] ∧ laws_markRawS.l0 n w0 x1 x5 = some (r1, r2)) _ (head_ ⟨[0, 1, 5], [], [], []⟩ ⟨by omega, _, _, _, rfl, H⟩ (by cbv) f_ f_) (fun n0 t ht Q0 hN0 hX0 => ?_)); obtain ⟨hle0, w0, x1, x5, rfl, H⟩ := ht; obtain ⟨m, hm, H⟩ := laws_markRawS.l0_s H; simp only [laws_markRawS.l0] at H; (try (conv => cbv)))
    | ((with_reducible refine hN0 _ ⟨_, ?lt, head_ ⟨[0, 1, 5], [], [], []⟩ ⟨by omega, _, _, _, rfl, H⟩ (by cbv) f_ f_⟩); (case lt => omega))
    | ((with_reducible refine hX0 _ _ ne_ret ?_); (try (conv => cbv)))
    | ((with_reducible refine hX0 _ _ (ne_exit _) ?_); (try (conv => cbv)))
    | ((with_reducible first | refine end_ ⟨[4], [], [], []⟩ 44 hQ (by cbv) ?_ | refine end_ ⟨[4], [], [], []⟩ 44 hQn (by cbv) ?_); (with_reducible have hS := Option.some.inj H); clear hS; cases H; exact f_)
    | contradiction
theorem laws_heldIntS.l0_s {k : Nat} {x0 : List Int} {x1 : Int} {x5 : Int} {r : _} (h : laws_heldIntS.l0 k x0 x1 x5 = some r) : ∃ m, k = m + 1 ∧ laws_heldIntS.l0 (m + 1) x0 x1 x5 = some r := by
  cases k with
  | zero => simp [laws_heldIntS.l0] at h
  | succ m => exact ⟨m, rfl, h⟩
set_option maxRecDepth 100000 in
set_option maxHeartbeats 4000000 in
theorem laws_heldIntS.con (E : En) (hE : E = E0) {k : Nat} {l0 : List Int} {a1 : Int} {r : Int} (H : laws_heldIntS.f k l0 a1 = some (r)) :
    Con Tryz.prog TBX 171 [.c (.sl [.int .i64] (E.eI .i64 l0)), .c (.int .i64 a1)] [] (.c (.int .i64 r)) [] [] := by
  refine con_of Tryz.func171 rfl (by kernel_rfl) tabOk [] (Nat.le_of_ble_eq_true rfl) (fun F hF Q hQ hQn => ?_)
  simp only [laws_heldIntS.f] at H
  (conv => cbv)
  repeat' first
    | replace H := s_ H
    | (rw [itn_iff] at H; obtain ⟨hc, H⟩ := H)
    | (rw [itn2_iff] at H; obtain ⟨hc, H⟩ := H)
    | ((with_reducible refine br_ hF (fun hb => ?_) (fun hb => ?_)) <;> ((try simp only [hF, hE] at hb); (try simp only [hs, vs] at hb); first | rw [if_pos hb] at H | rw [if_neg hb] at H | rw [if_nn hb] at H | replace H := i_ hb H | (simp only [hb, not_t, b_f, not_true_eq_false, not_false_eq_true, Bool.not_true, Bool.not_false, Bool.false_eq_true, if_true, if_false] at H) | skip) <;> (try (conv => cbv)))
    | (refine w_ hF ?_; (try (conv => cbv)))
    | ((with_reducible refine loop_ hF (fun n t => n ≤ k ∧ ∃ (x0 : List Int) (x1 : Int) (x5 : Int), t = At 21 [(0, .c (.sl [.int .i64] (E.eI .i64 x0))), (1, .c (.int .i64 x1)), (5, .c (.int .i64 x5))] [] ∧ laws_heldIntS.l0 n x0 x1 x5 = some (r)) _ (head_ ⟨[0, 1, 5], [], [], []⟩ ⟨by omega, _, _, _, rfl, H⟩ (by cbv) f_ f_) (fun n0 t ht Q0 hN0 hX0 => ?_)); obtain ⟨hle0, x0, x1, x5, rfl, H⟩ := ht; obtain ⟨m, hm, H⟩ := laws_heldIntS.l0_s H; simp only [laws_heldIntS.l0] at H; (try (conv => cbv)))
    | ((with_reducible refine hN0 _ ⟨_, ?lt, head_ ⟨[0, 1, 5], [], [], []⟩ ⟨by omega, _, _, _, rfl, H⟩ (by cbv) f_ f_⟩); (case lt => omega))
    | ((with_reducible refine hX0 _ _ ne_ret ?_); (try (conv => cbv)))
    | ((with_reducible refine hX0 _ _ (ne_exit _) ?_); (try (conv => cbv)))
    | ((with_reducible first | refine end_ ⟨[4], [], [], []⟩ 21 hQ (by cbv) ?_ | refine end_ ⟨[4], [], [], []⟩ 21 hQn (by cbv) ?_); (with_reducible have hS := Option.some.inj H); clear hS; cases H; exact f_)
    | contradiction
set_option maxRecDepth 100000 in
set_option maxHeartbeats 4000000 in
theorem laws_heldManifest.con (E : En) (hE : E = E0) {k : Nat} {l0_0 : List Int} {a0_1 : Int} {a0_2 : Int} {a0_3 : Int} {l0_4 : List Int} {a1 : Int} {r : Int} (H : laws_heldManifest.f k l0_0 a0_1 a0_2 a0_3 l0_4 a1 = some (r)) :
    Con Tryz.prog TBX 88 [.agg [.c (.sl [.int .i64] (E.eI .i64 l0_0)), .c (.int .i64 a0_1), .c (.int .i64 a0_2), .c (.int .i64 a0_3), .c (.sl [.int .i64] (E.eI .i64 l0_4))], .c (.int .i64 a1)] [] (.c (.int .i64 r)) [] [] := by
  refine con_of Tryz.func88 rfl (by kernel_rfl) tabOk [] (Nat.le_of_ble_eq_true rfl) (fun F hF Q hQ hQn => ?_)
  simp only [laws_heldManifest.f] at H
  (conv => cbv)
  repeat' first
    | replace H := s_ H
    | (rw [itn_iff] at H; obtain ⟨hc, H⟩ := H)
    | (rw [itn2_iff] at H; obtain ⟨hc, H⟩ := H)
    | ((with_reducible refine br_ hF (fun hb => ?_) (fun hb => ?_)) <;> ((try simp only [hF, hE] at hb); (try simp only [hs, vs] at hb); first | rw [if_pos hb] at H | rw [if_neg hb] at H | rw [if_nn hb] at H | replace H := i_ hb H | (simp only [hb, not_t, b_f, not_true_eq_false, not_false_eq_true, Bool.not_true, Bool.not_false, Bool.false_eq_true, if_true, if_false] at H) | skip) <;> (try (conv => cbv)))
    | (refine w_ hF ?_; (try (conv => cbv)))
    | ((with_reducible show Hd.call F 171 _ _ _); rw [bind_iff] at H; obtain ⟨y, hy, H⟩ := H; (try dsimp only at H); refine call_ hF (laws_heldIntS.con E hE hy) f_ f_ ?_; (try (conv => cbv)))
    | ((with_reducible first | refine end_ ⟨[4], [], [], []⟩ 18 hQ (by cbv) ?_ | refine end_ ⟨[4], [], [], []⟩ 18 hQn (by cbv) ?_); (with_reducible have hS := Option.some.inj H); clear hS; cases H; exact f_)
    | contradiction
theorem laws_heldSpotS.l0_s {k : Nat} {x0 : List S145} {x1 : Int} {x5 : Int} {r : _} (h : laws_heldSpotS.l0 k x0 x1 x5 = some r) : ∃ m, k = m + 1 ∧ laws_heldSpotS.l0 (m + 1) x0 x1 x5 = some r := by
  cases k with
  | zero => simp [laws_heldSpotS.l0] at h
  | succ m => exact ⟨m, rfl, h⟩
set_option maxRecDepth 100000 in
set_option maxHeartbeats 4000000 in
theorem laws_heldSpotS.con (E : En) (hE : E = E0) {k : Nat} {l0 : List S145} {a1 : Int} {r : Int} (H : laws_heldSpotS.f k l0 a1 = some (r)) :
    Con Tryz.prog TBX 89 [.c (.sl [.str, .int .i64, .int .i64, .int .i64] (E.e145 l0)), .c (.int .i64 a1)] [] (.c (.int .i64 r)) [] [] := by
  refine con_of Tryz.func89 rfl (by kernel_rfl) tabOk [] (Nat.le_of_ble_eq_true rfl) (fun F hF Q hQ hQn => ?_)
  simp only [laws_heldSpotS.f] at H
  (conv => cbv)
  repeat' first
    | replace H := s_ H
    | (rw [itn_iff] at H; obtain ⟨hc, H⟩ := H)
    | (rw [itn2_iff] at H; obtain ⟨hc, H⟩ := H)
    | ((with_reducible refine br_ hF (fun hb => ?_) (fun hb => ?_)) <;> ((try simp only [hF, hE] at hb); (try simp only [hs, vs] at hb); first | rw [if_pos hb] at H | rw [if_neg hb] at H | rw [if_nn hb] at H | replace H := i_ hb H | (simp only [hb, not_t, b_f, not_true_eq_false, not_false_eq_true, Bool.not_true, Bool.not_false, Bool.false_eq_true, if_true, if_false] at H) | skip) <;> (try (conv => cbv)))
    | (refine w_ hF ?_; (try (conv => cbv)))
    | ((with_reducible show Hd.call F 87 _ _ _); rw [bind_iff] at H; obtain ⟨y, hy, H⟩ := H; (try dsimp only at H); refine call_ hF (laws_markText.con E hE hy) f_ f_ ?_; (try (conv => cbv)))
    | ((with_reducible refine loop_ hF (fun n t => n ≤ k ∧ ∃ (x0 : List S145) (x1 : Int) (x5 : Int), t = At 50 [(0, .c (.sl [.str, .int .i64, .int .i64, .int .i64] (E.e145 x0))), (1, .c (.int .i64 x1)), (5, .c (.int .i64 x5))] [] ∧ laws_heldSpotS.l0 n x0 x1 x5 = some (r)) _ (head_ ⟨[0, 1, 5], [], [], []⟩ ⟨by omega, _, _, _, rfl, H⟩ (by cbv) f_ f_) (fun n0 t ht Q0 hN0 hX0 => ?_)); obtain ⟨hle0, x0, x1, x5, rfl, H⟩ := ht; obtain ⟨m, hm, H⟩ := laws_heldSpotS.l0_s H; simp only [laws_heldSpotS.l0] at H; (try (conv => cbv)))
    | ((with_reducible refine hN0 _ ⟨_, ?lt, head_ ⟨[0, 1, 5], [], [], []⟩ ⟨by omega, _, _, _, rfl, H⟩ (by cbv) f_ f_⟩); (case lt => omega))
    | ((with_reducible refine hX0 _ _ ne_ret ?_); (try (conv => cbv)))
    | ((with_reducible refine hX0 _ _ (ne_exit _) ?_); (try (conv => cbv)))
    | ((with_reducible first | refine end_ ⟨[4], [], [], []⟩ 50 hQ (by cbv) ?_ | refine end_ ⟨[4], [], [], []⟩ 50 hQn (by cbv) ?_); (with_reducible have hS := Option.some.inj H); clear hS; cases H; exact f_)
    | contradiction
set_option maxRecDepth 100000 in
set_option maxHeartbeats 4000000 in
theorem laws_heldShelf.con (E : En) (hE : E = E0) {k : Nat} {l0_0 : List Int} {a0_1 : Int} {a0_2 : Int} {a0_3 : Int} {l0_4 : List Int} {l0_5 : List S145} {a0_6 : Int} {a1 : Int} {r : Int} (H : laws_heldShelf.f k l0_0 a0_1 a0_2 a0_3 l0_4 l0_5 a0_6 a1 = some (r)) :
    Con Tryz.prog TBX 26 [.agg [.c (.sl [.int .i64] (E.eI .i64 l0_0)), .c (.int .i64 a0_1), .c (.int .i64 a0_2), .c (.int .i64 a0_3), .c (.sl [.int .i64] (E.eI .i64 l0_4)), .c (.sl [.str, .int .i64, .int .i64, .int .i64] (E.e145 l0_5)), .c (.int .i64 a0_6)], .c (.int .i64 a1)] [] (.c (.int .i64 r)) [] [] := by
  refine con_of Tryz.func26 rfl (by kernel_rfl) tabOk [] (Nat.le_of_ble_eq_true rfl) (fun F hF Q hQ hQn => ?_)
  simp only [laws_heldShelf.f] at H
  (conv => cbv)
  repeat' first
    | replace H := s_ H
    | (rw [itn_iff] at H; obtain ⟨hc, H⟩ := H)
    | (rw [itn2_iff] at H; obtain ⟨hc, H⟩ := H)
    | ((with_reducible refine br_ hF (fun hb => ?_) (fun hb => ?_)) <;> ((try simp only [hF, hE] at hb); (try simp only [hs, vs] at hb); first | rw [if_pos hb] at H | rw [if_neg hb] at H | rw [if_nn hb] at H | replace H := i_ hb H | (simp only [hb, not_t, b_f, not_true_eq_false, not_false_eq_true, Bool.not_true, Bool.not_false, Bool.false_eq_true, if_true, if_false] at H) | skip) <;> (try (conv => cbv)))
    | (refine w_ hF ?_; (try (conv => cbv)))
    | ((with_reducible show Hd.call F 88 _ _ _); rw [bind_iff] at H; obtain ⟨y, hy, H⟩ := H; (try dsimp only at H); refine call_ hF (laws_heldManifest.con E hE hy) f_ f_ ?_; (try (conv => cbv)))
    | ((with_reducible show Hd.call F 89 _ _ _); rw [bind_iff] at H; obtain ⟨y, hy, H⟩ := H; (try dsimp only at H); refine call_ hF (laws_heldSpotS.con E hE hy) f_ f_ ?_; (try (conv => cbv)))
    | ((with_reducible first | refine end_ ⟨[4], [], [], []⟩ 18 hQ (by cbv) ?_ | refine end_ ⟨[4], [], [], []⟩ 18 hQn (by cbv) ?_); (with_reducible have hS := Option.some.inj H); clear hS; cases H; exact f_)
    | contradiction
theorem laws_heldRawS.l0_s {k : Nat} {x0 : List S119} {x1 : Int} {x5 : Int} {r : _} (h : laws_heldRawS.l0 k x0 x1 x5 = some r) : ∃ m, k = m + 1 ∧ laws_heldRawS.l0 (m + 1) x0 x1 x5 = some r := by
  cases k with
  | zero => simp [laws_heldRawS.l0] at h
  | succ m => exact ⟨m, rfl, h⟩
set_option maxRecDepth 100000 in
set_option maxHeartbeats 4000000 in
theorem laws_heldRawS.con (E : En) (hE : E = E0) {k : Nat} {l0 : List S119} {a1 : Int} {r : Int} (H : laws_heldRawS.f k l0 a1 = some (r)) :
    Con Tryz.prog TBX 27 [.c (.sl [.int .i64, .str, .str, .str] (E.e119 l0)), .c (.int .i64 a1)] [] (.c (.int .i64 r)) [] [] := by
  refine con_of Tryz.func27 rfl (by kernel_rfl) tabOk [] (Nat.le_of_ble_eq_true rfl) (fun F hF Q hQ hQn => ?_)
  simp only [laws_heldRawS.f] at H
  (conv => cbv)
  repeat' first
    | replace H := s_ H
    | (rw [itn_iff] at H; obtain ⟨hc, H⟩ := H)
    | (rw [itn2_iff] at H; obtain ⟨hc, H⟩ := H)
    | ((with_reducible refine br_ hF (fun hb => ?_) (fun hb => ?_)) <;> ((try simp only [hF, hE] at hb); (try simp only [hs, vs] at hb); first | rw [if_pos hb] at H | rw [if_neg hb] at H | rw [if_nn hb] at H | replace H := i_ hb H | (simp only [hb, not_t, b_f, not_true_eq_false, not_false_eq_true, Bool.not_true, Bool.not_false, Bool.false_eq_true, if_true, if_false] at H) | skip) <;> (try (conv => cbv)))
    | (refine w_ hF ?_; (try (conv => cbv)))
    | ((with_reducible show Hd.call F 87 _ _ _); rw [bind_iff] at H; obtain ⟨y, hy, H⟩ := H; (try dsimp only at H); refine call_ hF (laws_markText.con E hE hy) f_ f_ ?_; (try (conv => cbv)))
    | ((with_reducible refine loop_ hF (fun n t => n ≤ k ∧ ∃ (x0 : List S119) (x1 : Int) (x5 : Int), t = At 52 [(0, .c (.sl [.int .i64, .str, .str, .str] (E.e119 x0))), (1, .c (.int .i64 x1)), (5, .c (.int .i64 x5))] [] ∧ laws_heldRawS.l0 n x0 x1 x5 = some (r)) _ (head_ ⟨[0, 1, 5], [], [], []⟩ ⟨by omega, _, _, _, rfl, H⟩ (by cbv) f_ f_) (fun n0 t ht Q0 hN0 hX0 => ?_)); obtain ⟨hle0, x0, x1, x5, rfl, H⟩ := ht; obtain ⟨m, hm, H⟩ := laws_heldRawS.l0_s H; simp only [laws_heldRawS.l0] at H; (try (conv => cbv)))
    | ((with_reducible refine hN0 _ ⟨_, ?lt, head_ ⟨[0, 1, 5], [], [], []⟩ ⟨by omega, _, _, _, rfl, H⟩ (by cbv) f_ f_⟩); (case lt => omega))
    | ((with_reducible refine hX0 _ _ ne_ret ?_); (try (conv => cbv)))
    | ((with_reducible refine hX0 _ _ (ne_exit _) ?_); (try (conv => cbv)))
    | ((with_reducible first | refine end_ ⟨[4], [], [], []⟩ 52 hQ (by cbv) ?_ | refine end_ ⟨[4], [], [], []⟩ 52 hQn (by cbv) ?_); (with_reducible have hS := Option.some.inj H); clear hS; cases H; exact f_)
    | contradiction
set_option maxRecDepth 100000 in
set_option maxHeartbeats 4000000 in
theorem laws_FnExactOpenShelf.con (E : En) (hE : E = E0) {k : Nat} {l0_0 : List S171} {r : Bool} (H : laws_FnExactOpenShelf.f k l0_0 = some r) :
    Con Tryz.prog TBX 4 [.agg [.c (.sl [.str, .str] (E.e171 l0_0))]] [] (.c (.bool r)) [] [] := by
  refine con_of Tryz.func4 rfl (by kernel_rfl) tabOkM [] (Nat.le_of_ble_eq_true rfl) (fun F hF Q hQ hQn => ?_)
  simp only [laws_FnExactOpenShelf.f] at H
  (conv => cbv)
  repeat' first
    | replace H := s_ H
    | (rw [itn_iff] at H; obtain ⟨hc, H⟩ := H)
    | (rw [itn2_iff] at H; obtain ⟨hc, H⟩ := H)
    | ((with_reducible refine br_ hF (fun hb => ?_) (fun hb => ?_)) <;> ((try simp only [hF, hE] at hb); (try simp only [hs, vs] at hb); first | rw [if_pos hb] at H | rw [if_neg hb] at H | rw [if_nn hb] at H | replace H := i_ hb H | (simp only [hb, not_t, b_f, not_true_eq_false, not_false_eq_true, Bool.not_true, Bool.not_false, Bool.false_eq_true, if_true, if_false] at H) | skip) <;> (try (conv => cbv)))
    | (refine w_ hF ?_; (try (conv => cbv)))
    | ((with_reducible show Hd.call F 12 _ _ _); rw [bind_iff] at H; obtain ⟨y, hy, H⟩ := H; (try dsimp only at H); refine call_ hF (laws_szDisk.con E hE hy) f_ f_ ?_; (try (conv => cbv)))
    | ((with_reducible show Hd.call F 15 _ _ _); rw [bind_iff] at H; obtain ⟨y, hy, H⟩ := H; (try dsimp only at H); refine call_ hF (laws_toDisk.con E hE hy) f_ f_ ?_; (try (conv => cbv)))
    | ((with_reducible show Hd.call F 20 _ _ _); rw [bind_iff] at H; obtain ⟨⟨y1, y2, y3, y4, y5, y6, y7, y8, y9⟩, hy, H⟩ := H; (try dsimp only at H); refine call_ hF (spec_OpenShelf.con E hE hy) f_ f_ ?_; (try (conv => cbv)))
    | ((with_reducible show Hd.call F 21 _ _ _); rw [bind_iff] at H; obtain ⟨⟨y1, y2, y3, y4, y5, y6, y7, y8, y9⟩, hy, H⟩ := H; (try dsimp only at H); refine call_ hF (impl_OpenShelf.con E hE hy) f_ f_ ?_; (try (conv => cbv)))
    | ((with_reducible show Hd.call F 19 _ _ _); rw [bind_iff] at H; obtain ⟨y, hy, H⟩ := H; (try dsimp only at H); refine call_ hF (laws_eqShelf.con E hE hy) f_ f_ ?_; (try (conv => cbv)))
    | ((with_reducible show Hd.call F 22 _ _ _); rw [bind_iff] at H; obtain ⟨y, hy, H⟩ := H; (try dsimp only at H); refine call_ hF (laws_eqRawS.con E hE hy) f_ f_ ?_; (try (conv => cbv)))
    | ((with_reducible show Hd.call F 18 _ _ _); rw [bind_iff] at H; obtain ⟨y, hy, H⟩ := H; (try dsimp only at H); refine call_ hF (laws_eqDisk.con E hE hy) f_ f_ ?_; (try (conv => cbv)))
    | ((with_reducible show Hd.call F 23 _ _ _); rw [bind_iff] at H; obtain ⟨⟨y1, y2⟩, hy, H⟩ := H; (try dsimp only at H); refine call_ hF (laws_markDisk.con E hE hy) f_ f_ ?_; (try (conv => cbv)))
    | ((with_reducible show Hd.call F 24 _ _ _); rw [bind_iff] at H; obtain ⟨⟨y1, y2, y3, y4⟩, hy, H⟩ := H; (try dsimp only at H); refine call_ hF (laws_markShelf.con E hE hy) f_ f_ ?_; (try (conv => cbv)))
    | ((with_reducible show Hd.call F 25 _ _ _); rw [bind_iff] at H; obtain ⟨⟨y1, y2⟩, hy, H⟩ := H; (try dsimp only at H); refine call_ hF (laws_markRawS.con E hE hy) f_ f_ ?_; (try (conv => cbv)))
    | ((with_reducible show Hd.call F 26 _ _ _); rw [bind_iff] at H; obtain ⟨y, hy, H⟩ := H; (try dsimp only at H); refine call_ hF (laws_heldShelf.con E hE hy) f_ f_ ?_; (try (conv => cbv)))
    | ((with_reducible show Hd.call F 27 _ _ _); rw [bind_iff] at H; obtain ⟨y, hy, H⟩ := H; (try dsimp only at H); refine call_ hF (laws_heldRawS.con E hE hy) f_ f_ ?_; (try (conv => cbv)))
    | ((with_reducible first | refine end_ ⟨[2], [], [], []⟩ 133 hQ (by cbv) ?_ | refine end_ ⟨[2], [], [], []⟩ 133 hQn (by cbv) ?_); (with_reducible have hS := Option.some.inj H); clear hS; cases H; exact f_)
    | contradiction
end Go.Ev

