/- The law FnExactScanSeg answers true: the program's ScanSeg returns the spots, texts and stamp that the reference's returns, in memory of its own. For all arguments; no further condition. -/
import Derived.Test.YtbcgnncbiblibaaPFnExactScanSegx17
import Derived.Test.YtbcgnncbiblibaaVFnExactScanSegBase
namespace Go.Proofs.Ytbcgnncbiblibaa.Pure
open Go.RowKit Go.Proofs.Ytbcgnncbiblibaa.PFnExactScanSeg Go.Proofs.YtbcgnncbiblibaaW.PrintWords Go.Proofs.YtbcgnncbiblibaaW.PrintLast Go.Proofs.Ytbcgnncbiblibaa.Base
set_option linter.unusedVariables false
theorem laws_markText_loop : ∀ (n : Nat) (acc : ByteArray), acc.size + n ≤ 4611686018427387904 → Ev (fun k => laws_markText.l0 k (n : Int) acc) (markTextL n acc) := by
 intro n
 induction n using Nat.strongRecOn with
 | ind n ih =>
  intro acc h;refine Ev.step (fun _ => rfl) ?_;simp only [laws_markText.l0,tdiv10 n (by omega),tmod10 n,Option.bind_some,strOfNums_size,List.length_singleton];rw [markTextL];refine Ev.ite (fun hc => ?_) (fun hc => ?_)
  ·rw [if_pos (show n > 0 by omega)];exact Ev.pos (by omega) (ih (n / 10) (by omega) _ (by rw [size_append,strOfNums_size,List.length_singleton];omega))
  ·rw [if_neg (show ¬ n > 0 by omega)];exact Ev.pos (by omega) (Ev.now _)
theorem laws_markText_ev (m : Int) (hm : m ≤ 4611686018427387904) : Ev (fun k => laws_markText.f k m) (markTextOf m) := by
 unfold laws_markText.f markTextOf
 by_cases hc : m ≤ 0
 ·rw [if_pos hc];exact Ev.pos hc (Ev.now _)
 ·rw [if_neg hc];obtain ⟨n,rfl⟩:=Int.eq_ofNat_of_zero_le (show 0 ≤ m by omega);exact Ev.neg hc (laws_markText_loop n _ (by show 0 + n ≤ _;omega))
theorem rdT85_drop {xs : List S85} {n : Nat} {x : S85} {t : List S85} (h : xs.drop n = x :: t) : rd_T85 xs (n : Int) = x := by
 unfold rd_T85
 rw [Int.toNat_natCast];exact (drop_cons h).2.1 _
theorem rdT88_drop {xs : List S88} {n : Nat} {x : S88} {t : List S88} (h : xs.drop n = x :: t) : rd_T88 xs (n : Int) = x := by
 unfold rd_T88
 rw [Int.toNat_natCast];exact (drop_cons h).2.1 _
theorem rdT88_at {a : List S88} {n : Nat} (h : a.length = n) (v : S88) (t : List S88) : rd_T88 (a ++ v :: t) (n : Int) = v := by
 unfold rd_T88
 rw [Int.toNat_natCast];exact getD_at h v t _
theorem laws_eqSpot_refl (x0 : ByteArray) (x1 : Int) (x2 : Int) (x3 : Int) : laws_eqSpot.f x0 x1 x2 x3 x0 x1 x2 x3 = some true := by simp [laws_eqSpot.f]
theorem laws_eqSpotS_loop (xs : List S88) (hx : xs.length ≤ 9223372036854775806) : ∀ (rest : List S88) (n : Nat), xs.drop n = rest → Ev (fun k => laws_eqSpotS.l0 k xs xs (n : Int)) true := by
 intro rest
 induction rest with
 | nil =>
  intro n h;have:=drop_nil h;refine Ev.step (fun _ => rfl) ?_;simp only [laws_eqSpotS.l0];exact Ev.neg (by omega) (Ev.now _)
 | cons x t ih =>
  intro n h;obtain ⟨h1,-,h3⟩:=drop_cons h;refine Ev.step (fun _ => rfl) ?_;simp only [laws_eqSpotS.l0,wrap64_succ (show n ≤ 9223372036854775806 by omega)];exact Ev.pos (by omega) (Ev.pos (by omega) (Ev.pos (by omega) (Ev.call (laws_eqSpot_refl _ _ _ _) (Ev.pos rfl (ih (n + 1) h3)))))
theorem laws_eqSpotS_refl (xs : List S88) (hx : xs.length ≤ 9223372036854775806) : Ev (fun k => laws_eqSpotS.f k xs xs) true :=
 Ev.pos rfl (laws_eqSpotS_loop xs hx xs 0 rfl)
def mkSpot (m : Int) : S88 := ⟨markTextOf (m), m + 1, m + 1 + 1, m + 1 + 1 + 1⟩
def markedSpot : List S88 → Int → List S88
 | [],_ => []
 | _ :: t,m => mkSpot m :: markedSpot t (m + 1 + 1 + 1 + 1)
theorem markedSpot_length : ∀ (l : List S88) (m : Int), (markedSpot l m).length = l.length
 | [],_ => rfl
 | x :: t,m => by rw [markedSpot,List.length_cons,List.length_cons,markedSpot_length t]
theorem laws_markSpotS_loop : ∀ (rest done : List S88) (n : Nat) (m : Int), done.length = n → 0 ≤ m → m + 4 * (rest.length : Int) ≤ 4611686018427387904 → n + rest.length ≤ 1152921504606846976 →
  Ev (fun k => laws_markSpotS.l0 k (done ++ rest) m (n : Int)) (m + 4 * (rest.length : Int),done ++ markedSpot rest m):=by
 intro rest
 induction rest with
 | nil =>
  intro done n m hd h0 hm hb;refine Ev.step (fun _ => rfl) ?_;simp only [laws_markSpotS.l0];exact Ev.neg (by rw [List.append_nil];omega) (Ev.done (by simp [markedSpot]))
 | cons x t ih =>
  intro done n m hd h0 hm hb
  have hn : n ≤ 9223372036854775806:=by rw [List.length_cons] at hb;omega
  have hm' : m + 4 ≤ 4611686018427387904:=by rw [List.length_cons] at hm;omega
  have w1 : wrap64 (m + 1) = m + 1:=wrap64_id (by omega) (by omega);have w2 : wrap64 (m + 1 + 1) = m + 1 + 1:=wrap64_id (by omega) (by omega);have w3 : wrap64 (m + 1 + 1 + 1) = m + 1 + 1 + 1:=wrap64_id (by omega) (by omega);have w4 : wrap64 (m + 1 + 1 + 1 + 1) = m + 1 + 1 + 1 + 1:=wrap64_id (by omega) (by omega);have ih:=ih (done ++ [mkSpot m]) (n + 1) (m + 1 + 1 + 1 + 1) (by simp [hd]) (by omega) (by rw [List.length_cons] at hm;omega) (by rw [List.length_cons] at hb;omega);refine Ev.step (fun _ => rfl) ?_;simp only [laws_markSpotS.l0,wrap64_succ hn,Int.toNat_natCast,set_at hd,rdT88_at hd,Option.bind_some,w1,w2,w3,w4];refine Ev.pos (by rw [List.length_append,List.length_cons];omega) (Ev.bind (laws_markText_ev (m) (by omega)) (Ev.pos (by omega) (?_)))
  try simp only [Option.bind_some,set_at hd,rdT88_at hd]
  refine Ev.eq (Ev.congr (fun k => ?_) ih) ?_
  ·simp only [List.append_assoc,List.cons_append,List.nil_append];rfl
  ·rw [markedSpot,List.append_assoc,List.length_cons];refine Prod.ext ?_ rfl;show (m + 1 + 1 + 1 + 1) + 4 * (t.length : Int) = m + 4 * ((t.length + 1 : Nat) : Int)
   omega
theorem laws_markSpotS_ev (l : List S88) (m : Int) (h0 : 0 ≤ m) (hm : m + 4 * (l.length : Int) ≤ 4611686018427387904) (hl : l.length ≤ 1152921504606846976) : Ev (fun k => laws_markSpotS.f k l m) (m + 4 * (l.length : Int), markedSpot l m) :=
 laws_markSpotS_loop l [] 0 m rfl h0 hm (by omega)
theorem laws_heldSpotS_loop (xs : List S88) (hx : xs.length ≤ 1152921504606846976) : ∀ (rest : List S88) (n : Nat) (m : Int), xs.drop n = markedSpot rest m → 0 ≤ m → m + 4 * (rest.length : Int) ≤ 4611686018427387904 →
  Ev (fun k => laws_heldSpotS.l0 k xs m (n : Int)) (m + 4 * (rest.length : Int)):=by
 intro rest
 induction rest with
 | nil =>
  intro n m h h0 hm;have:=drop_nil h;refine Ev.step (fun _ => rfl) ?_;simp only [laws_heldSpotS.l0];exact Ev.neg (by omega) (Ev.done (by simp))
 | cons x t ih =>
  intro n m h h0 hm;rw [markedSpot] at h;obtain ⟨h1,-,h3⟩:=drop_cons h
  have hm' : m + 4 ≤ 4611686018427387904:=by rw [List.length_cons] at hm;omega
  have w1 : wrap64 (m + 1) = m + 1:=wrap64_id (by omega) (by omega);have w2 : wrap64 (m + 1 + 1) = m + 1 + 1:=wrap64_id (by omega) (by omega);have w3 : wrap64 (m + 1 + 1 + 1) = m + 1 + 1 + 1:=wrap64_id (by omega) (by omega);have w4 : wrap64 (m + 1 + 1 + 1 + 1) = m + 1 + 1 + 1 + 1:=wrap64_id (by omega) (by omega);have ih:=ih (n + 1) (m + 1 + 1 + 1 + 1) h3 (by omega) (by rw [List.length_cons] at hm;omega);refine Ev.step (fun _ => rfl) ?_;simp only [laws_heldSpotS.l0,wrap64_succ (show n ≤ 9223372036854775806 by omega),rdT88_drop h,w1,w2,w3,w4];refine Ev.pos (by omega) (Ev.pos (by omega) (Ev.bind (laws_markText_ev (m) (by omega)) (Ev.pos rfl (Ev.pos rfl (Ev.pos rfl (Ev.pos rfl (?_)))))));refine Ev.eq ih ?_;rw [List.length_cons];show (m + 1 + 1 + 1 + 1) + 4 * (t.length : Int) = m + 4 * ((t.length + 1 : Nat) : Int)
  omega
theorem laws_heldSpotS_ev (l : List S88) (m : Int) (h0 : 0 ≤ m) (hm : m + 4 * (l.length : Int) ≤ 4611686018427387904) (hl : l.length ≤ 1152921504606846976) : Ev (fun k => laws_heldSpotS.f k (markedSpot l m) m) (m + 4 * (l.length : Int)) :=
 laws_heldSpotS_loop _ (by rw [markedSpot_length];omega) l 0 m rfl h0 hm
theorem spec_l01In_eq (a b c : Int) : spec_l01In.f a b c = some (inR a b c) := by
 unfold spec_l01In.f inR
 by_cases h : b ≤ a
 ·rw [if_pos h];simp [h]
 ·rw [if_neg h];simp [h]
theorem impl_within_eq (a b c : Int) : impl_within.f a b c = some (inR a b c) := by
 unfold impl_within.f inR
 by_cases h : b ≤ a
 ·rw [if_pos h];simp [h]
 ·rw [if_neg h];simp [h]
theorem spec_l01Var_loop : ∀ (n : Nat) (acc : List Int), acc.length + n < 140737488355328 →
  Ev (fun k => spec_l01Var.l0 k (n : Int) acc) (strOfNums (acc ++ varL n)):=by
 intro n
 induction n using Nat.strongRecOn with
 | ind n ih =>
  intro acc h;refine Ev.step (fun _ => rfl) ?_;simp only [spec_l01Var.l0,tdiv128 n (by omega),tmod128 n];refine Ev.ite (fun hc => ?_) (fun hc => ?_)
  ·rw [varL_big (by omega)];exact Ev.pos (by omega) (Ev.eq (ih (n / 128) (by omega) _ (by simp;omega)) (by simp))
  ·rw [varL_small (by omega)];exact Ev.pos (by omega) (Ev.done (by rw [Int.emod_eq_of_lt (by omega) (by omega)]))
theorem spec_l01Var_nat (n : Nat) (h : n ≤ 34359738367) : Ev (fun k => spec_l01Var.f k (n : Int)) (varText n) := spec_l01Var_loop n [] (by simp; omega)
theorem spec_l01Var_ev (n : Int) (h0 : 0 ≤ n) (h : n ≤ 34359738367) : Ev (fun k => spec_l01Var.f k n) (varText n.toNat) := by
 obtain ⟨m,rfl⟩:=Int.eq_ofNat_of_zero_le h0;exact spec_l01Var_nat m (by omega)
theorem impl_VarText_loop : ∀ (n : Nat) (acc : List Int), acc.length + n < 140737488355328 →
  Ev (fun k => impl_VarText.l0 k (n : Int) acc) (strOfNums (acc ++ varL n),true):=by
 intro n
 induction n using Nat.strongRecOn with
 | ind n ih =>
  intro acc h;refine Ev.step (fun _ => rfl) ?_;simp only [impl_VarText.l0,tdiv128 n (by omega),tmod128 n];refine Ev.ite (fun hc => ?_) (fun hc => ?_)
  ·rw [varL_big (by omega)];exact Ev.pos (by omega) (Ev.eq (ih (n / 128) (by omega) _ (by simp;omega)) (by simp))
  ·rw [varL_small (by omega)];exact Ev.pos (by omega) (Ev.done (by rw [Int.emod_eq_of_lt (by omega) (by omega)]))
theorem impl_VarText_ev (n : Int) : Ev (fun k => impl_VarText.f k n) (varTextOf n) := by
 unfold impl_VarText.f varTextOf
 refine Ev.call (impl_within_eq _ _ _) ?_
 cases hb : inR n 0 1000000000
 ·exact Ev.neg (by simp) (Ev.done (by simp))
 ·have:=inR_true.1 hb;obtain ⟨m,rfl⟩:=Int.eq_ofNat_of_zero_le this.1;exact Ev.pos rfl (Ev.eq (impl_VarText_loop m [] (by simp;omega)) (by simp [varText]))
theorem impl_VarText_nat (n : Nat) (h : n ≤ 1000000000) : Ev (fun k => impl_VarText.f k (n : Int)) (varText n, true) :=
 Ev.eq (impl_VarText_ev (n : Int)) (by rw [varTextOf,if_pos (inR_true.2 (by omega))];rfl)
theorem impl_vars_loop (xs : List Int) (hx : xs.length ≤ 1048576) : ∀ (rest : List Int) (n : Nat) (acc : List Int), xs.drop n = rest → acc.length + 5 * rest.length < 140737488355328 →
  Ev (fun k => impl_vars.l0 k acc xs (xs.length : Int) (n : Int)) (if rest.all (fun n => inR n 0 1000000000) = true then (strOfNums (acc ++ rest.flatMap fun n => varL n.toNat),true) else (⟨#[]⟩,false)):=by
 intro rest
 induction rest with
 | nil =>
  intro n acc h ha;have:=drop_nil h;refine Ev.step (fun _ => rfl) ?_;simp only [impl_vars.l0];exact Ev.neg (by omega) (Ev.done (by simp))
 | cons x t ih =>
  intro n acc h ha;obtain ⟨h1,-,h3⟩:=drop_cons h;refine Ev.step (fun _ => rfl) ?_;simp only [impl_vars.l0,drop_rd h,wrap64_succ (show n ≤ 9223372036854775806 by omega)];refine Ev.pos (by omega) (Ev.pos (by omega) (Ev.pos (by omega) (Ev.bind (impl_VarText_ev x) ?_)))
  unfold varTextOf
  cases hb : inR x 0 1000000000
  ·exact Ev.neg (by simp) (Ev.done (by simp [hb]))
  ·have hr:=inR_true.1 hb;have hv:=varL_len (show x.toNat ≤ 34359738367 by omega);simp only [if_true,varText,strOfNums_size,bytesOf_strOfNums _ (varL_bytes _)];rw [List.length_cons] at ha;refine Ev.pos (by omega) (Ev.eq (ih (n + 1) (acc ++ varL x.toNat) h3 (by rw [List.length_append];omega)) ?_)
   simp [hb]
theorem impl_vars_ev (xs : List Int) (hx : xs.length ≤ 1048576) : Ev (fun k => impl_vars.f k xs) (varsOf xs) :=
 Ev.eq (impl_vars_loop xs hx xs 0 [] rfl (by simp;omega)) (by simp [varsOf])
theorem spec_l02Four_eq (x : Int) : spec_l02Four.f x = some (four x) := rfl
theorem spec_SumMore_bits (s : ByteArray) (i : Nat) (hi : i ≤ 9223372036854775806) (r : Int) : ∀ (d : Nat) (x : Int) (j : Nat), j + d = 8 →
  Ev (fun k => spec_SumMore.l0 k (sumBits d x) s ((i + 1 : Nat) : Int)) r → Ev (fun k => spec_SumMore.l1 k x s (i : Int) (j : Int)) r:=by
 intro d
 induction d with
 | zero =>
  intro x j hj h;refine Ev.step (fun _ => rfl) ?_;simp only [spec_SumMore.l1,wrap64_succ hi];exact Ev.neg (by omega) h
 | succ d ih =>
  intro x j hj h;refine Ev.step (fun _ => rfl) ?_;simp only [spec_SumMore.l1,wrap64_succ (show j ≤ 9223372036854775806 by omega)];refine Ev.pos (by omega) (Ev.ite (fun hc => ih _ (j + 1) (by omega) ?_) (fun hc => ih _ (j + 1) (by omega) ?_))
  ·rw [sumBits,sumBit,if_pos hc] at h;exact h
  ·rw [sumBits,sumBit,if_neg hc] at h;exact h
theorem spec_SumMore_loop (s : ByteArray) (hs : s.size ≤ 9223372036854775806) : ∀ (rest : List Int) (n : Nat) (x : Int), (bytesOf s).drop n = rest →
  Ev (fun k => spec_SumMore.l0 k x s (n : Int)) (sumMore x rest):=by
 intro rest
 induction rest with
 | nil =>
  intro n x h;have:=bytesOf_drop_nil h;refine Ev.step (fun _ => rfl) ?_;simp only [spec_SumMore.l0];exact Ev.neg (by omega) (Ev.done rfl)
 | cons b t ih =>
  intro n x h;obtain ⟨h1,h2,h3,h4,h5⟩:=bytesOf_drop_lt h;refine Ev.step (fun _ => rfl) ?_;simp only [spec_SumMore.l0,h2];exact Ev.pos (by omega) (Ev.pos (by omega) (spec_SumMore_bits s n (by omega) _ 8 _ 0 rfl (ih (n + 1) _ h3)))
theorem spec_SumMore_ev (x : Int) (s : ByteArray) (hs : s.size ≤ 9223372036854775806) : Ev (fun k => spec_SumMore.f k x s) (sumMore x (bytesOf s)) := spec_SumMore_loop s hs _ 0 x rfl
theorem spec_SumOf_ev (s : ByteArray) (hs : s.size ≤ 9223372036854775806) : Ev (fun k => spec_SumOf.f k s) (sumOf s) := Ev.bind (spec_SumMore_ev _ s hs) (Ev.now _)
theorem impl_SumMore_bits (s : ByteArray) (i : Nat) (hi : i ≤ 9223372036854775806) (r : Int) : ∀ (d : Nat) (x : Int) (j : Nat), j + d = 8 →
  Ev (fun k => impl_SumMore.l0 k (sumBits d x) s ((i + 1 : Nat) : Int)) r → Ev (fun k => impl_SumMore.l1 k x s (i : Int) (j : Int)) r:=by
 intro d
 induction d with
 | zero =>
  intro x j hj h;refine Ev.step (fun _ => rfl) ?_;simp only [impl_SumMore.l1,wrap64_succ hi];exact Ev.neg (by omega) h
 | succ d ih =>
  intro x j hj h;refine Ev.step (fun _ => rfl) ?_;simp only [impl_SumMore.l1,wrap64_succ (show j ≤ 9223372036854775806 by omega)];refine Ev.pos (by omega) (Ev.ite (fun hc => ih _ (j + 1) (by omega) ?_) (fun hc => ih _ (j + 1) (by omega) ?_))
  ·rw [sumBits,sumBit,if_pos hc] at h;exact h
  ·rw [sumBits,sumBit,if_neg hc] at h;exact h
theorem impl_SumMore_loop (s : ByteArray) (hs : s.size ≤ 9223372036854775806) : ∀ (rest : List Int) (n : Nat) (x : Int), (bytesOf s).drop n = rest →
  Ev (fun k => impl_SumMore.l0 k x s (n : Int)) (sumMore x rest):=by
 intro rest
 induction rest with
 | nil =>
  intro n x h;have:=bytesOf_drop_nil h;refine Ev.step (fun _ => rfl) ?_;simp only [impl_SumMore.l0];exact Ev.neg (by omega) (Ev.done rfl)
 | cons b t ih =>
  intro n x h;obtain ⟨h1,h2,h3,h4,h5⟩:=bytesOf_drop_lt h;refine Ev.step (fun _ => rfl) ?_;simp only [impl_SumMore.l0,h2];exact Ev.pos (by omega) (Ev.pos (by omega) (impl_SumMore_bits s n (by omega) _ 8 _ 0 rfl (ih (n + 1) _ h3)))
theorem impl_SumMore_ev (x : Int) (s : ByteArray) (hs : s.size ≤ 9223372036854775806) : Ev (fun k => impl_SumMore.f k x s) (sumMore x (bytesOf s)) := impl_SumMore_loop s hs _ 0 x rfl
theorem impl_SumOf_ev (s : ByteArray) (hs : s.size ≤ 9223372036854775806) : Ev (fun k => impl_SumOf.f k s) (sumOf s) := Ev.bind (impl_SumMore_ev _ s hs) (Ev.now _)
theorem spec_Frame_ev (s : ByteArray) (hs : s.size ≤ 1152921504606846976) : Ev (fun k => spec_Frame.f k s) (frame s) := by
 unfold spec_Frame.f frame
 refine Ev.call (spec_l01In_eq _ _ _) ?_
 cases hb : inR (s.size : Int) 1 9000
 ·exact Ev.neg (by simp) (Ev.done (by simp))
 ·have hr:=inR_true.1 hb;have hv:=varText_size (show s.size ≤ 34359738367 by omega);have h4:=four_size (sumOf s);refine Ev.pos rfl (Ev.bind (spec_l01Var_nat _ (by omega)) (Ev.bind (spec_SumOf_ev s (by omega)) (Ev.call (spec_l02Four_eq _) ?_)));exact Ev.pos (by omega) (Ev.pos (by rw [size_append];omega) (Ev.done (by simp)))
theorem impl_Frame_ev (s : ByteArray) (hs : s.size ≤ 1152921504606846976) : Ev (fun k => impl_Frame.f k s) (frame s) := by
 unfold impl_Frame.f frame
 refine Ev.call (impl_within_eq _ _ _) ?_
 cases hb : inR (s.size : Int) 1 9000
 ·exact Ev.neg (by simp) (Ev.done (by simp))
 ·have hr:=inR_true.1 hb;have hv:=varText_size (show s.size ≤ 34359738367 by omega);have h4:=four_size (sumOf s);refine Ev.pos rfl (Ev.bind (impl_VarText_nat _ (by omega)) (Ev.bind (impl_SumOf_ev s (by omega)) (Ev.call rfl ?_)));rw [four] at h4;exact Ev.pos (by dsimp only;omega) (Ev.pos (by rw [size_append];dsimp only;omega) (Ev.done (by simp [four])))
theorem spec_l05Short_ev (s : ByteArray) (hs : s.size ≤ 1073741824) : Ev (fun k => spec_l05Short.f k s) (shortText s) := by
 have h:=varText_size (show s.size ≤ 34359738367 by omega);exact Ev.bind (spec_l01Var_nat _ (by omega)) (Ev.pos (by omega) (Ev.now _))
theorem impl_ShortText_ev (s : ByteArray) (hs : s.size ≤ 20000) : Ev (fun k => impl_ShortText.f k s) (shortText s, true) := by
 have h:=varText_size (show s.size ≤ 34359738367 by omega);exact Ev.neg (by omega) (Ev.bind (impl_VarText_nat _ (by omega)) (Ev.pos (by dsimp only;omega) (Ev.now _)))
theorem impl_short_ev (s : ByteArray) (hs : s.size ≤ 20000) : Ev (fun k => impl_short.f k s) (shortText s) := Ev.bind (impl_ShortText_ev s hs) (Ev.now _)
theorem spec_ReadVar_loop (s : ByteArray) (a : Nat) (hs : s.size ≤ 1152921504606846976) (ha : a ≤ s.size) : ∀ (k : Nat) (rest done : List Int) (i : Nat), i + k = 5 → done.length = i → (bytesOf s).drop a = done ++ rest →
  Ev (fun K => spec_ReadVar.l0 K s (a : Int) (val done : Int) ((128 ^ i : Nat) : Int) ((a + i : Nat) : Int))
   (match varSeg k rest with|none => (0,0,false)|some bs => if val (done ++ bs) ≤ 1000000000 ∧ varL (val (done ++ bs)) = done ++ bs then ((val (done ++ bs) : Int),((a + (done ++ bs).length : Nat) : Int),true) else (0,0,false)):=by
 intro k;have hz:=bytesOf_length s
 have no : ∀ (x7 x8 x9 : Int) r,r = (0,0,false) → Ev (fun K => spec_ReadVar.j1 K s (a : Int) x7 x8 x9 false) r:=by
  rintro x7 x8 x9 r rfl;refine Ev.step (fun _ => rfl) ?_;simp only [spec_ReadVar.j1];exact Ev.neg (by simp) (Ev.now _)
 induction k with
 | zero =>
  intro rest done i hi hd hr;refine Ev.step (fun _ => rfl) ?_;simp only [spec_ReadVar.l0,wrap64_id (show -9223372036854775808 ≤ (a : Int) + 5 by omega) (show (a : Int) + 5 ≤ 9223372036854775807 by omega)];refine Ev.ite (fun _ => ?_) (fun _ => no _ _ _ _ rfl);rw [decide_eq_false (by omega)];exact no _ _ _ _ rfl
 | succ k ih =>
  intro rest done i hi hd hr
  have hl : done.length + rest.length = s.size - a:=by rw [← List.length_append,← hr,List.length_drop,hz]
  cases rest with
  | nil =>
   refine Ev.step (fun _ => rfl) ?_;simp only [spec_ReadVar.l0];rw [List.length_nil] at hl;exact Ev.neg (by omega) (no _ _ _ _ rfl)
  | cons b t =>
   have hbt : bt s ((a + i : Nat) : Int) = b:=by
    rw [← rd_bytesOf,rd_nat]
    have e : (bytesOf s).drop (a + i) = b :: t:=by rw [← List.drop_drop,hr,List.drop_append_of_le_length (by omega),← hd,List.drop_length,List.nil_append]
    exact (drop_cons e).2.1 0
   have hb:=bytesOf_range s b (by
    have : b ∈ (bytesOf s).drop a:=by rw [hr];simp
    exact List.mem_of_mem_drop this)
   rw [List.length_cons] at hl;have hsc:=scale_bound (show i ≤ 5 by omega);have hvd:=val_lt done;rw [hd] at hvd;have e1 : Int.tmod (wrap64 b) 128 = b % 128:=byte_mod hb.1 hb.2;have hpos : 0 < 128 ^ i:=Nat.pow_pos (by omega)
   have hmul : (b % 128) * ((128 ^ i : Nat) : Int) = (((b % 128).toNat * 128 ^ i : Nat) : Int):=by
    rw [Int.natCast_mul,Int.toNat_of_nonneg (by omega)]
   have hmb : (b % 128).toNat * 128 ^ i ≤ 127 * 128 ^ i:=Nat.mul_le_mul_right _ (by omega)
   have e2 : wrap64 ((val done : Int) + wrap64 (Int.tmod (wrap64 b) 128 * ((128 ^ i : Nat) : Int))) = (val (done ++ [b]) : Int):=by
    rw [e1,hmul,wrap64_id (n:=(((b % 128).toNat * 128 ^ i : Nat) : Int)) (by omega) (by omega),wrap64_id (by omega) (by omega),val_append,hd];rw [show val [b] = (b % 128).toNat by simp [val],Nat.mul_comm (128 ^ i)]
    omega
   have hval : val (done ++ [b]) < 128 ^ (i + 1):=by
    have:=val_lt (done ++ [b])
    rwa [List.length_append,hd] at this
   have hsc':=scale_bound (show i + 1 ≤ 5 by omega);refine Ev.step (fun _ => rfl) ?_;simp only [spec_ReadVar.l0,wrap64_id (show -9223372036854775808 ≤ (a : Int) + 5 by omega) (show (a : Int) + 5 ≤ 9223372036854775807 by omega)];rw [decide_eq_true (show ((a + i : Nat) : Int) < (a : Int) + 5 by omega)];refine Ev.pos (by omega) (Ev.step (fun _ => rfl) ?_);simp only [spec_ReadVar.j1,hbt,e2,wrap64_succ (show a + i ≤ 9223372036854775806 by omega)];refine Ev.pos trivial (Ev.pos (by omega) (Ev.pos (by omega) (Ev.ite (fun hlt => ?_) (fun hge => ?_))))
   ·rw [varSeg,if_pos hlt];simp only [];refine Ev.ite (fun hbig => Ev.done ?_) (fun hsmall => ?_)
    ·rw [if_neg (by omega)]
    ·have hex : (s.extract (a : Int).toNat ((a + i + 1 : Nat) : Int).toNat).toList = (strOfNums (done ++ [b])).toList:=by
      rw [toList_iff,bytesOf_extract,Int.toNat_natCast,Int.toNat_natCast,List.drop_take,hr,bytesOf_strOfNums _ (by
       intro x hx;refine bytesOf_range s x ?_
       have : x ∈ (bytesOf s).drop a:=by rw [hr];rcases List.mem_append.1 hx with h|h <;> simp_all
       exact List.mem_of_mem_drop this)]
      rw [show a + i + 1 - a = done.length + 1 by omega];rw [List.take_append,List.take_of_length_le (by omega)]
      simp
     refine Ev.bind (spec_l01Var_nat _ (by omega)) (Ev.pos (by omega) (Ev.pos (by omega) (Ev.pos (by omega) ?_)));rw [hex]
     have hiff : (varText (val (done ++ [b]))).toList = (strOfNums (done ++ [b])).toList ↔ varL (val (done ++ [b])) = done ++ [b]:=by
      rw [toList_iff,bytesOf_varText,bytesOf_strOfNums _ (by
       intro x hx;refine bytesOf_range s x ?_
       have : x ∈ (bytesOf s).drop a:=by rw [hr];rcases List.mem_append.1 hx with h|h <;> simp_all
       exact List.mem_of_mem_drop this)]
     refine Ev.ite (fun hc => Ev.done ?_) (fun hc => Ev.done ?_)
     ·rw [if_pos ⟨by omega,hiff.1 hc⟩,List.length_append,hd];rfl
     ·rw [if_neg (fun h => hc (hiff.2 h.2))]
   ·have ih:=ih t (done ++ [b]) (i + 1) (by omega) (by simp [hd]) (by rw [hr];simp);rw [varSeg,if_neg hge]
    have e3 : wrap64 (((128 ^ i : Nat) : Int) * 128) = ((128 ^ (i + 1) : Nat) : Int):=by
     rw [wrap64_id (by omega) (by omega),Nat.pow_succ,Int.natCast_mul];rfl
    rw [e3];refine Ev.eq ih ?_
    cases varSeg k t with
    | none => rfl
    | some bs => simp only [Option.map_some,List.append_assoc,List.cons_append,List.nil_append]
theorem spec_ReadVar_ev (s : ByteArray) (a : Int) (hs : s.size ≤ 1152921504606846976) : Ev (fun k => spec_ReadVar.f k s a) (readVar s a) := by
 unfold spec_ReadVar.f readVar
 refine Ev.call (spec_l01In_eq _ _ _) ?_
 cases hb : inR a 0 s.size
 ·exact Ev.neg (by simp) (Ev.done (by simp))
 ·have hr:=inR_true.1 hb;obtain ⟨n,rfl⟩:=Int.eq_ofNat_of_zero_le hr.1;refine Ev.pos rfl (Ev.eq (spec_ReadVar_loop s n hs (by omega) 5 ((bytesOf s).drop n) [] 0 rfl rfl rfl) ?_);rw [if_pos rfl,Int.toNat_natCast,readVarL]
  cases varSeg 5 ((bytesOf s).drop n) with
  | none => rfl
  | some bs =>
   simp only [List.nil_append]
   by_cases hc : val bs ≤ 1000000000 ∧ varL (val bs) = bs
   ·rw [if_pos hc,if_pos hc];simp
   ·rw [if_neg hc,if_neg hc]
theorem impl_ReadVar_loop (s : ByteArray) (a : Nat) (hs : s.size ≤ 1152921504606846976) (ha : a ≤ s.size) : ∀ (k : Nat) (rest done : List Int) (i : Nat), i + k = 5 → done.length = i → (bytesOf s).drop a = done ++ rest → (∀ bs, varSeg k rest = some bs → varSeg 5 ((bytesOf s).drop a) = some (done ++ bs)) →
  Ev (fun K => impl_ReadVar.l0 K s (a : Int) (val done : Int) (i : Int))
   (match varSeg k rest with|none => (0,0,false)|some bs => if val (done ++ bs) ≤ 1000000000 ∧ varL (val (done ++ bs)) = done ++ bs then ((val (done ++ bs) : Int),((a + (done ++ bs).length : Nat) : Int),true) else (0,0,false)):=by
 intro k;have hz:=bytesOf_length s
 have no : ∀ (x7 x8 : Int) r,r = (0,0,false) → Ev (fun K => impl_ReadVar.j1 K s (a : Int) x7 x8 false) r:=by
  rintro x7 x8 r rfl;refine Ev.step (fun _ => rfl) ?_;simp only [impl_ReadVar.j1];exact Ev.neg (by simp) (Ev.now _)
 induction k with
 | zero =>
  intro rest done i hi hd hr _;refine Ev.step (fun _ => rfl) ?_;simp only [impl_ReadVar.l0];exact Ev.neg (by omega) (no _ _ _ rfl)
 | succ k ih =>
  intro rest done i hi hd hr hseg
  have hl : done.length + rest.length = s.size - a:=by rw [← List.length_append,← hr,List.length_drop,hz]
  cases rest with
  | nil =>
   refine Ev.step (fun _ => rfl) ?_;simp only [impl_ReadVar.l0];rw [List.length_nil] at hl;refine Ev.pos (by omega) ?_;rw [wrap64_id (by omega) (by omega),decide_eq_false (by omega)];exact no _ _ _ rfl
  | cons b t =>
   have e0 : wrap64 ((a : Int) + (i : Int)) = ((a + i : Nat) : Int):=by rw [wrap64_id (by omega) (by omega)];omega
   have hbt : bt s ((a + i : Nat) : Int) = b:=by
    rw [← rd_bytesOf,rd_nat]
    have e : (bytesOf s).drop (a + i) = b :: t:=by rw [← List.drop_drop,hr,List.drop_append_of_le_length (by omega),← hd,List.drop_length,List.nil_append]
    exact (drop_cons e).2.1 0
   have hb:=bytesOf_range s b (by
    have : b ∈ (bytesOf s).drop a:=by rw [hr];simp
    exact List.mem_of_mem_drop this)
   rw [List.length_cons] at hl;have hsc:=scale_bound (show i ≤ 5 by omega);have hvd:=val_lt done;rw [hd] at hvd;have e1 : Int.tmod (wrap64 b) 128 = b % 128:=byte_mod hb.1 hb.2
   have hmul : (b % 128) * ((128 ^ i : Nat) : Int) = (((b % 128).toNat * 128 ^ i : Nat) : Int):=by
    rw [Int.natCast_mul,Int.toNat_of_nonneg (by omega)]
   have hmb : (b % 128).toNat * 128 ^ i ≤ 127 * 128 ^ i:=Nat.mul_le_mul_right _ (by omega);have hpos : 0 < 128 ^ i:=Nat.pow_pos (by omega);have e7 : wrap64 (7 * (i : Int)) = 7 * (i : Int):=wrap64_id (by omega) (by omega)
   have hshl : shl .i64 (b % 128) (7 * (i : Int)) = (b % 128) * ((128 ^ i : Nat) : Int):=by
    have hp : (2 : Int) ^ min (7 * (i : Int)).toNat (IntKind.bits .i64) = ((128 ^ i : Nat) : Int):=by
     rcases i with _|_|_|_|_|i
     ·rfl
     ·rfl
     ·rfl
     ·rfl
     ·rfl
     ·omega
    unfold shl
    rw [hp,i64_w];exact wrap64_id (by omega) (by omega)
   have e2 : wrap64 ((val done : Int) + shl .i64 (Int.tmod (wrap64 b) 128) (wrap64 (7 * (i : Int)))) = (val (done ++ [b]) : Int):=by
    rw [e1,e7,hshl,hmul,wrap64_id (by omega) (by omega),val_append,hd];rw [show val [b] = (b % 128).toNat by simp [val],Nat.mul_comm (128 ^ i)]
    omega
   clear hsc hvd hmul hmb hpos hshl e1;refine Ev.step (fun _ => rfl) ?_;simp only [impl_ReadVar.l0,e0];refine Ev.pos (by omega) ?_;rw [decide_eq_true (show ((a + i : Nat) : Int) < (s.size : Int) by omega)];refine Ev.step (fun _ => rfl) ?_;simp only [impl_ReadVar.j1,e0,hbt,e2,wrap64_succ (show i ≤ 9223372036854775806 by omega),wrap64_succ (show a + i ≤ 9223372036854775806 by omega)];rw [wrap64_id (n:=b) (by omega) (by omega)];refine Ev.pos trivial (Ev.pos (by omega) (Ev.pos (by omega) (Ev.pos (by rw [e7];omega) (Ev.ite (fun hlt => ?_) (fun hge => ?_)))))
   ·have hsg:=hseg [b] (by rw [varSeg,if_pos hlt]);have hck:=varSeg_check (fun x hx => bytesOf_range s x (List.mem_of_mem_drop hx)) hsg;rw [varSeg,if_pos hlt];simp only []
    by_cases hbig : val (done ++ [b]) ≤ 1000000000
    ·refine Ev.bind (impl_VarText_nat _ hbig) (Ev.pos rfl ?_);simp only [varText,strOfNums_size]
     have hlen : (done ++ [b]).length = i + 1:=by simp [hd]
     refine Ev.ite (fun hc => Ev.done ?_) (fun hc => Ev.done ?_)
     ·rw [if_pos ⟨hbig,hck.1 (by omega)⟩,hlen];rfl
     ·rw [if_neg (fun h => hc (by have:=hck.2 h.2;omega))]
    ·refine Ev.bind (Ev.eq (impl_VarText_ev _) (varTextOf_no (show ¬ ((val (done ++ [b]) : Int) ≤ 1000000000) by omega))) ?_;refine Ev.neg (by simp) (Ev.done ?_);rw [if_neg (fun h => hbig h.1)]
   ·have ih:=ih t (done ++ [b]) (i + 1) (by omega) (by simp [hd]) (by rw [hr];simp) (fun bs hbs => by
     have:=hseg (b :: bs) (by rw [varSeg,if_neg hge,hbs];rfl)
     rw [this];simp)
    rw [varSeg,if_neg hge];refine Ev.eq ih ?_
    cases varSeg k t with
    | none => rfl
    | some bs => simp only [Option.map_some,List.append_assoc,List.cons_append,List.nil_append]
theorem impl_ReadVar_ev (s : ByteArray) (a : Int) (hs : s.size ≤ 1152921504606846976) : Ev (fun k => impl_ReadVar.f k s a) (readVar s a) := by
 unfold impl_ReadVar.f readVar
 refine Ev.call (impl_within_eq _ _ _) ?_
 cases hb : inR a 0 s.size
 ·exact Ev.neg (by simp) (Ev.done (by simp))
 ·have hr:=inR_true.1 hb;obtain ⟨n,rfl⟩:=Int.eq_ofNat_of_zero_le hr.1;refine Ev.pos rfl (Ev.eq (impl_ReadVar_loop s n hs (by omega) 5 ((bytesOf s).drop n) [] 0 rfl rfl rfl (fun bs h => h)) ?_);rw [if_pos rfl,Int.toNat_natCast,readVarL]
  cases varSeg 5 ((bytesOf s).drop n) with
  | none => rfl
  | some bs =>
   simp only [List.nil_append]
   by_cases hc : val bs ≤ 1000000000 ∧ varL (val bs) = bs
   ·rw [if_pos hc,if_pos hc];simp
   ·rw [if_neg hc,if_neg hc]
theorem spec_l05Var_ev (s : ByteArray) (a : Int) (bad : Bool) (hs : s.size ≤ 1152921504606846976) : Ev (fun k => spec_l05Var.f k s a bad) (curNum s a bad) := by
 unfold spec_l05Var.f curNum
 refine Ev.bind (spec_ReadVar_ev s a hs) (Ev.ite (fun h => Ev.done (by rw [if_pos h])) (fun h => Ev.ite (fun h' => Ev.done ?_) (fun h' => Ev.done ?_)))
 ·rw [if_neg h,if_pos h']
 ·rw [if_neg h,if_neg h']
theorem impl_reader_num_ev (s : ByteArray) (a : Int) (bad : Bool) (hs : s.size ≤ 1152921504606846976) : Ev (fun k => impl_reader_num.f k s a bad) (curNum s a bad) := by
 unfold impl_reader_num.f curNum
 refine Ev.bind (impl_ReadVar_ev s a hs) (Ev.ite (fun h => Ev.done (by rw [if_pos h])) (fun h => Ev.ite (fun h' => Ev.done ?_) (fun h' => Ev.done ?_)))
 ·rw [if_neg h,if_pos h']
 ·rw [if_neg h,if_neg h']
theorem spec_l05Take_eq (s : ByteArray) (a n : Int) (bad : Bool) (hs : s.size ≤ 1152921504606846976) (h0 : 0 ≤ a) (h1 : a ≤ s.size) (hn : 0 ≤ n) (hn' : n ≤ 1152921504606846976) : spec_l05Take.f s a bad n = some (curTake s a bad n) := by
 unfold spec_l05Take.f curTake
 by_cases h : bad = true
 ·rw [if_pos h,if_pos h]
 ·rw [if_neg h,if_neg h,wrap64_id (n:=(s.size : Int) - a) (by omega) (by omega),wrap64_id (n:=a + n) (by omega) (by omega),show a + n - n = a by omega,wrap64_id (n:=a) (by omega) (by omega)]
  by_cases hc : n > (s.size : Int) - a
  ·rw [if_pos hc,if_pos hc]
  ·rw [if_neg hc,if_neg hc,if_pos (by omega),if_pos (by omega),if_pos (by omega)]
theorem impl_reader_byte_eq (s : ByteArray) (a : Int) (bad : Bool) (hs : s.size ≤ 1152921504606846976) (h0 : 0 ≤ a) (h1 : a ≤ s.size) : impl_reader_byte.f s a bad = some (curByte s a bad) := by
 unfold impl_reader_byte.f curByte
 by_cases h : bad = true
 ·rw [if_pos h,if_pos h]
 ·rw [if_neg h,if_neg h,wrap64_id (n:=a + 1) (by omega) (by omega),show a + 1 - 1 = a by omega,wrap64_id (n:=a) (by omega) (by omega)]
  by_cases hc : a ≥ (s.size : Int)
  ·rw [if_pos hc,if_pos hc]
  ·have:=bt_range s a;rw [if_neg hc,if_neg hc,if_pos (by omega),if_pos (by omega),wrap64_id (n:=bt s a) (by omega) (by omega)]
theorem spec_l05ReadShort_ev (s : ByteArray) (a : Int) (bad : Bool) (hs : s.size ≤ 1152921504606846976) (h0 : 0 ≤ a) (h1 : a ≤ s.size) : Ev (fun k => spec_l05ReadShort.f k s a bad) (curShort s a bad) := by
 unfold spec_l05ReadShort.f curShort
 have hp:=curNum_place (s:=s) (a:=a) (bad:=bad) h0 h1;have hn:=curNum_nonneg s a bad;refine Ev.bind (spec_l05Var_ev s a bad hs) ?_;simp only [curNum_text];exact Ev.call (spec_l05Take_eq s _ _ _ hs hp.1 hp.2 hn.1 (by omega)) (Ev.now _)
theorem impl_ReadShort_ev (s : ByteArray) (a : Int) (hs : s.size ≤ 1152921504606846976) : Ev (fun k => impl_ReadShort.f k s a) (readShort s a) := by
 unfold impl_ReadShort.f readShort
 refine Ev.bind (impl_ReadVar_ev s a hs) (Ev.ite (fun h => ?_) (fun h => Ev.done (by rw [if_neg h])));have hr:=readVar_true (s:=s) (a:=a) (n:=(readVar s a).1) (b:=(readVar s a).2.1) (by rw [← h]);rw [if_pos h,wrap64_id (n:=(s.size : Int) - (readVar s a).2.1) (by omega) (by omega)];refine Ev.ite (fun h2 => Ev.done (by rw [if_pos h2])) (fun h2 => Ev.ite (fun h3 => Ev.done (by rw [if_neg h2,if_pos h3])) (fun h3 => ?_));rw [if_neg h2,if_neg h3,wrap64_id (n:=(readVar s a).2.1 + (readVar s a).1) (by omega) (by omega)];exact Ev.pos (by omega) (Ev.pos (by omega) (Ev.pos (by omega) (Ev.now _)))
theorem impl_reader_text_ev (s : ByteArray) (a : Int) (bad : Bool) (hs : s.size ≤ 1152921504606846976) : Ev (fun k => impl_reader_text.f k s a bad) (curText s a bad) := by
 unfold impl_reader_text.f curText
 refine Ev.bind (impl_ReadShort_ev s a hs) (Ev.ite (fun h => Ev.done (by rw [if_pos h])) (fun h => Ev.ite (fun h' => Ev.done ?_) (fun h' => Ev.done ?_)))
 ·rw [if_neg h,if_pos h']
 ·rw [if_neg h,if_neg h']
theorem spec_l05Key_eq (s : ByteArray) : spec_l05Key.f s = some (inR s.size 1 10) := by
 unfold spec_l05Key.f;rw [spec_l01In_eq];rfl
theorem impl_keyOk_eq (s : ByteArray) : impl_keyOk.f s = some (inR s.size 1 10) := by
 unfold impl_keyOk.f;rw [impl_within_eq];rfl
def unfStep (s : ByteArray) (a : Int) : Option (ByteArray × Int) :=
 if (readVar s a).2.2 = false then none else
 if (readVar s a).1 > (s.size : Int) - (readVar s a).2.1 - 4 then none else
 if (frame (s.extract ((readVar s a).2.1 + 4).toNat ((readVar s a).2.1 + 4 + (readVar s a).1).toNat)).2 = true ∧ (frame (s.extract ((readVar s a).2.1 + 4).toNat ((readVar s a).2.1 + 4 + (readVar s a).1).toNat)).1 = s.extract a.toNat ((readVar s a).2.1 + 4 + (readVar s a).1).toNat
 then some (s.extract ((readVar s a).2.1 + 4).toNat ((readVar s a).2.1 + 4 + (readVar s a).1).toNat,(readVar s a).2.1 + 4 + (readVar s a).1) else none
def unfr (s : ByteArray) : Nat → List ByteArray → Int → List ByteArray × Int
 | 0,acc,a => (acc,a)
 | m + 1,acc,a => match unfStep s a with
  | none => (acc,a)
  | some (c,b) => unfr s m (acc ++ [c]) b
def unframe (s : ByteArray) : List ByteArray × Int := if s.size > 20000 then ([], 0) else unfr s (s.size + 1) [] 0
theorem unfStep_some {s : ByteArray} {a b : Int} {c : ByteArray} (h : unfStep s a = some (c, b)) : 0 ≤ a ∧ a < b ∧ b ≤ s.size ∧ c.size ≤ 9000 := by
 unfold unfStep at h
 split at h
 ·cases h
 split at h
 ·cases h
 split at h
 ·rename_i h1 h2 h3
  simp only [Option.some.injEq,Prod.mk.injEq] at h;obtain ⟨rfl,rfl⟩:=h
  have hr : readVar s a = ((readVar s a).1,(readVar s a).2.1,true):=by
   have : (readVar s a).2.2 = true:=by cases hb : (readVar s a).2.2 <;> simp_all
   rw [← this]
  obtain ⟨p1,p2,p3,p4,p5,p6,-,-⟩:=readVar_true hr;refine ⟨p1,by omega,by omega,?_⟩;have h4:=h3.1
  unfold frame at h4
  split at h4
  ·rename_i h5
   have:=inR_true.1 h5
   omega
  ·simp at h4
 ·cases h
theorem unfr_bounds (s : ByteArray) : ∀ (m : Nat) (acc : List ByteArray) (a : Int), 0 ≤ a → a ≤ s.size → (acc.length : Int) ≤ a → (∀ c ∈ acc, c.size ≤ 9000) →
  (0 ≤ (unfr s m acc a).2 ∧ (unfr s m acc a).2 ≤ s.size) ∧ ((unfr s m acc a).1.length : Int) ≤ (unfr s m acc a).2 ∧ ∀ c ∈ (unfr s m acc a).1,c.size ≤ 9000
 | 0,acc,a,h0,h1,h2,h3 => ⟨⟨h0,h1⟩,h2,h3⟩
 | m + 1,acc,a,h0,h1,h2,h3 => by
  rw [unfr]
  cases hs : unfStep s a with
  | none => exact ⟨⟨h0,h1⟩,h2,h3⟩
  | some x =>
   obtain ⟨c,b⟩:=x;obtain ⟨p1,p2,p3,p4⟩:=unfStep_some hs;refine unfr_bounds s m (acc ++ [c]) b (by omega) p3 (by simp only [List.length_append,List.length_singleton];omega) ?_;intro d hd
   rcases List.mem_append.1 hd with hd|hd
   ·exact h3 d hd
   ·rw [List.mem_singleton] at hd;rw [hd];exact p4
theorem unframe_bounds (s : ByteArray) : (unframe s).1.length ≤ 20000 ∧ ∀ c ∈ (unframe s).1, c.size ≤ 9000 := by
 unfold unframe
 split
 ·exact ⟨by simp,fun c hc => by cases hc⟩
 ·obtain ⟨h1,h2,h3⟩:=unfr_bounds s (s.size + 1) [] 0 (by omega) (by omega) (by simp) (fun c hc => by cases hc);exact ⟨by omega,h3⟩
theorem readVar_res {s : ByteArray} {a : Int} (h : (readVar s a).2.2 = true) : readVar s a = ((readVar s a).1, (readVar s a).2.1, true) := by
 rw [← h]
theorem spec_Unframe_loop (s : ByteArray) (hs : s.size ≤ 20000) : ∀ (m : Nat) (acc : List ByteArray) (a : Int), 0 ≤ a → a ≤ s.size → (acc.length : Int) ≤ a → (s.size : Int) - a < m → Ev (fun k => spec_Unframe.l0 k s acc a) (unfr s m acc a) := by
 intro m
 induction m with
 | zero => intro acc a h0 h1 h2 h3;omega
 | succ m ih =>
  intro acc a h0 h1 h2 h3;refine Ev.step (fun _ => rfl) ?_;simp only [spec_Unframe.l0];rw [unfr];refine Ev.ite (fun hc => Ev.bind (spec_ReadVar_ev s a (by omega)) ?_) (fun hc => Ev.done ?_)
  ·cases hb : (readVar s a).2.2
   ·have e : unfStep s a = none:=by rw [unfStep,if_pos hb]
    refine Ev.neg (by simp) (Ev.step (fun _ => rfl) ?_);simp only [spec_Unframe.j1,e];exact Ev.pos trivial (Ev.now _)
   ·obtain ⟨p1,p2,p3,p4,p5,p6,-,-⟩:=readVar_true (readVar_res hb)
    have es : wrap64 (wrap64 ((s.size : Int) - (readVar s a).2.1) - 4) = s.size - (readVar s a).2.1 - 4:=by
     rw [wrap64_id (n:=(s.size : Int) - (readVar s a).2.1) (by omega) (by omega),wrap64_id (by omega) (by omega)]
    have e4 : wrap64 ((readVar s a).2.1 + 4) = (readVar s a).2.1 + 4:=wrap64_id (by omega) (by omega);have eb : wrap64 ((readVar s a).2.1 + 4 + (readVar s a).1) = (readVar s a).2.1 + 4 + (readVar s a).1:=wrap64_id (by omega) (by omega);refine Ev.pos rfl (Ev.step (fun _ => rfl) ?_);simp only [spec_Unframe.j1,es,e4,eb]
    by_cases h4 : (readVar s a).1 > (s.size : Int) - (readVar s a).2.1 - 4
    ·have e : unfStep s a = none:=by rw [unfStep,if_neg (by simp [hb]),if_pos h4]
     rw [e];exact Ev.pos (decide_eq_true h4) (Ev.now _)
    ·refine Ev.neg (by simp;omega) (Ev.pos (by omega) (Ev.pos (by omega) (Ev.pos (by omega) (Ev.bind (spec_Frame_ev _ (by rw [ByteArray.size_extract];omega)) (Ev.ite (fun h5 => Ev.pos (by omega) (Ev.pos (by omega) (Ev.ite (fun h6 => Ev.pos (by omega) ?_) (fun h6 => ?_)))) (fun h5 => ?_))))))
     ·have e : unfStep s a = some (s.extract ((readVar s a).2.1 + 4).toNat ((readVar s a).2.1 + 4 + (readVar s a).1).toNat,(readVar s a).2.1 + 4 + (readVar s a).1):=by
       rw [unfStep,if_neg (by simp [hb]),if_neg h4,if_pos ⟨h5,toList_inj.1 h6⟩]
      rw [e];exact ih _ _ (by omega) (by omega) (by simp only [List.length_append,List.length_singleton];omega) (by omega)
     ·have e : unfStep s a = none:=by rw [unfStep,if_neg (by simp [hb]),if_neg h4,if_neg (fun e => h6 (toList_inj.2 e.2))]
      rw [e];exact Ev.now _
     ·have e : unfStep s a = none:=by rw [unfStep,if_neg (by simp [hb]),if_neg h4,if_neg (fun e => h5 e.1)]
      rw [e];exact Ev.now _
  ·have e : unfStep s a = none:=by
    have hf : (readVar s a).2.2 = false:=by
     cases hb : (readVar s a).2.2
     ·rfl
     ·have:=readVar_true (readVar_res hb);omega
    rw [unfStep,if_pos hf]
   rw [e]
theorem spec_Unframe_ev (s : ByteArray) : Ev (fun k => spec_Unframe.f k s) (unframe s) := by
 unfold spec_Unframe.f unframe
 refine Ev.call rfl (Ev.ite (fun hc => Ev.done ?_) (fun hc => ?_))
 ·rw [if_pos (show s.size > 20000 by omega)]
 ·rw [if_neg (show ¬ s.size > 20000 by omega)];exact spec_Unframe_loop s (by omega) _ [] 0 (by omega) (by omega) (by simp) (by omega)
theorem impl_flag_eq (b : Bool) : impl_flag.f b = some (flagT b) := by cases b <;> rfl
def keyUp : Option ByteArray → ByteArray → Bool
 | none,_ => true
 | some q,s => Op.bytesLess q.toList s.toList
def batchIn : Option ByteArray → List S85 → Bool
 | _,[] => true
 | p,x :: t => inR x.f0.size 1 10 && (keyUp p x.f0 && (decide (x.f1.size ≤ 40) && ((!x.f2 || emp x.f1) && batchIn (some x.f0) t)))
def batchOk (st : Int) (l : List S85) : Bool := inR st 0 100000 && (decide (l.length ≤ 60) && batchIn none l)
def keyOfC (xs : List S85) : Nat → Option ByteArray
 | 0 => none
 | n + 1 => some (rd_T85 xs (n : Int)).f0
theorem batchIn_mem : ∀ {l : List S85} {p : Option ByteArray}, batchIn p l = true → ∀ x ∈ l, (1 ≤ x.f0.size ∧ x.f0.size ≤ 10) ∧ x.f1.size ≤ 40
 | [],_,_,x,hx => by cases hx
 | y :: t,p,h,x,hx => by
  rw [batchIn] at h;simp only [Bool.and_eq_true] at h
  rcases List.mem_cons.1 hx with rfl|hx
  ·have:=inR_true.1 h.1;exact ⟨by omega,of_decide_eq_true h.2.2.1⟩
  ·exact batchIn_mem h.2.2.2.2 x hx
theorem batchOk_bounds {st : Int} {l : List S85} (h : batchOk st l = true) : (0 ≤ st ∧ st ≤ 100000) ∧ l.length ≤ 60 ∧ ∀ x ∈ l, (1 ≤ x.f0.size ∧ x.f0.size ≤ 10) ∧ x.f1.size ≤ 40 := by
 unfold batchOk at h
 simp only [Bool.and_eq_true] at h;exact ⟨inR_true.1 h.1,of_decide_eq_true h.2.1,batchIn_mem h.2.2⟩
theorem spec_BatchOk_loop (st : Int) (l : List S85) (hl : l.length ≤ 1048576) : ∀ (rest : List S85) (n : Nat), l.drop n = rest → Ev (fun k => spec_BatchOk.l0 k (n : Int) st l) (batchIn (keyOfC l n) rest) := by
 intro rest
 induction rest with
 | nil =>
  intro n h;have:=drop_nil h;refine Ev.step (fun _ => rfl) ?_;simp only [spec_BatchOk.l0];exact Ev.neg (by omega) (Ev.done (by simp [batchIn]))
 | cons x t ih =>
  intro n h;obtain ⟨h1,-,h3⟩:=drop_cons h
  have hk : keyOfC l (n + 1) = some x.f0:=by rw [keyOfC,rdT85_drop h]
  have ih:=ih (n + 1) h3;rw [hk] at ih
  have tail : ∀ r,r = (decide (x.f1.size ≤ 40) && ((!x.f2 || emp x.f1) && batchIn (some x.f0) t)) → Ev (fun k => if ((x.f1).size : Int) > 40 then some false else (if x.f2 = true then (if x.f1.toList = ([] : List UInt8) then (spec_BatchOk.l0 k ((n + 1 : Nat) : Int) st l) else some false) else (spec_BatchOk.l0 k ((n + 1 : Nat) : Int) st l))) r:=by
   rintro r rfl;refine Ev.ite (fun c => Ev.done (by rw [decide_eq_false (show ¬ x.f1.size ≤ 40 by omega)];rfl)) (fun c => ?_);rw [decide_eq_true (show x.f1.size ≤ 40 by omega),Bool.true_and];refine Ev.ite (fun c2 => Ev.ite (fun c3 => Ev.eq ih ?_) (fun c3 => Ev.done ?_)) (fun c2 => Ev.eq ih ?_)
   ·rw [c2,(emp_iff _).1 c3];simp
   ·rw [c2,show emp x.f1 = false by simpa using fun e => c3 ((emp_iff _).2 e)];simp
   ·rw [show x.f2 = false by simpa using c2];simp
  refine Ev.step (fun _ => rfl) ?_;simp only [spec_BatchOk.l0,rdT85_drop h,wrap64_succ (show n ≤ 9223372036854775806 by omega)];refine Ev.pos (by omega) (Ev.pos (by omega) (Ev.call (spec_l05Key_eq _) ?_));rw [batchIn]
  cases h0 : inR x.f0.size 1 10
  ·exact Ev.neg (by simp) (Ev.done (by simp))
  refine Ev.pos rfl ?_
  cases n with
  | zero => exact Ev.neg (by omega) (tail _ (by simp [keyOfC,keyUp]))
  | succ m =>
   simp only [wrap64_pred (show m ≤ 9223372036854775806 by omega)];refine Ev.pos (by omega) (Ev.pos (by omega) (Ev.pos (by omega) (Ev.ite (fun hc => tail _ ?_) (fun hc => Ev.done ?_))))
   ·simp only [keyOfC,keyUp,hc];simp
   ·simp only [keyOfC,keyUp,Bool.eq_false_iff.2 hc];simp
theorem spec_BatchOk_ev (st : Int) (l : List S85) (hl : l.length ≤ 1048576) : Ev (fun k => spec_BatchOk.f k st l) (batchOk st l) := by
 unfold spec_BatchOk.f batchOk
 refine Ev.call (spec_l01In_eq _ _ _) ?_
 cases inR st 0 100000
 ·refine Ev.neg (by simp) (Ev.step (fun _ => rfl) ?_);simp only [spec_BatchOk.j0];exact Ev.pos trivial (Ev.done (by simp))
 ·refine Ev.pos rfl (Ev.step (fun _ => rfl) ?_);simp only [spec_BatchOk.j0];refine Ev.ite (fun c => Ev.done ?_) (fun c => Ev.eq (spec_BatchOk_loop st l hl l 0 rfl) ?_)
  ·have:=of_decide_eq_true c;rw [decide_eq_false (show ¬ l.length ≤ 60 by omega)];rfl
  ·have:=of_decide_eq_false (by simpa using c : decide ((l.length : Int) > 60) = false);rw [decide_eq_true (show l.length ≤ 60 by omega)];rfl
def batchRows : ByteArray → List S85 → ByteArray
 | s,[] => s
 | s,x :: t => batchRows (s ++ shortText x.f0 ++ flagT x.f2 ++ shortText x.f1) t
def batchText (st : Int) (l : List S85) : ByteArray × Bool := if batchOk st l = true then (batchRows (varText st.toNat ++ varText l.length) l, true) else (⟨#[]⟩, false)
theorem spec_BatchText_loop (st : Int) (l : List S85) (hl : l.length ≤ 60) (hd : ∀ x ∈ l, (1 ≤ x.f0.size ∧ x.f0.size ≤ 10) ∧ x.f1.size ≤ 40) : ∀ (rest : List S85) (n : Nat) (acc : ByteArray), l.drop n = rest → acc.size + 100 * rest.length ≤ 100000 →
  Ev (fun k => spec_BatchText.l0 k acc (n : Int) st l) (batchRows acc rest,true):=by
 intro rest
 induction rest with
 | nil =>
  intro n acc h ha;have:=drop_nil h;refine Ev.step (fun _ => rfl) ?_;simp only [spec_BatchText.l0];rw [batchRows];exact Ev.neg (by omega) (Ev.now _)
 | cons x r ih =>
  intro n acc h ha;obtain ⟨h1,-,h3⟩:=drop_cons h;have hm:=hd x (List.mem_of_mem_drop (h ▸ List.mem_cons_self));have s0:=shortText_size (show x.f0.size ≤ 34359738367 by omega);have s1:=shortText_size (show x.f1.size ≤ 34359738367 by omega);have sf:=flagT_size x.f2;rw [List.length_cons] at ha;refine Ev.step (fun _ => rfl) ?_;simp only [spec_BatchText.l0,rdT85_drop h,wrap64_succ (show n ≤ 9223372036854775806 by omega)];rw [batchRows];have hn:=ih (n + 1) (acc ++ shortText x.f0 ++ flagT x.f2 ++ shortText x.f1) h3 (by simp only [size_append];omega);have z1 : (⟨#[1]⟩ : ByteArray).size = 1:=rfl;have z0 : (⟨#[0]⟩ : ByteArray).size = 1:=rfl;refine Ev.pos (by omega) (Ev.pos (by omega) (Ev.ite (fun hc => ?_) (fun hc => ?_)))
  ·rw [flagT,if_pos hc] at hn ⊢;exact Ev.bind (spec_l05Short_ev x.f0 (by omega)) (Ev.pos (by omega) (Ev.pos (by simp only [size_append];omega) (Ev.bind (spec_l05Short_ev x.f1 (by omega)) (Ev.pos (by simp only [size_append];omega) hn))))
  ·rw [flagT,if_neg hc] at hn ⊢;exact Ev.bind (spec_l05Short_ev x.f0 (by omega)) (Ev.pos (by omega) (Ev.pos (by simp only [size_append];omega) (Ev.bind (spec_l05Short_ev x.f1 (by omega)) (Ev.pos (by simp only [size_append];omega) hn))))
theorem spec_BatchText_ev (st : Int) (l : List S85) (hl : l.length ≤ 1048576) : Ev (fun k => spec_BatchText.f k st l) (batchText st l) := by
 unfold spec_BatchText.f batchText
 refine Ev.bind (spec_BatchOk_ev st l hl) (Ev.ite (fun hk => ?_) (fun hk => Ev.done (by rw [if_neg hk])));rw [if_pos hk];obtain ⟨b1,b2,b3⟩:=batchOk_bounds hk;have s1:=varText_size (show st.toNat ≤ 34359738367 by omega);have s2:=varText_size (show l.length ≤ 34359738367 by omega);exact Ev.bind (spec_l01Var_ev st (by omega) (by omega)) (Ev.bind (spec_l01Var_nat _ (by omega)) (Ev.pos (by omega) (spec_BatchText_loop st l b2 b3 l 0 _ rfl (by simp only [size_append];omega))))
def changeBytes (x : S85) : List Int := sh x.f0 ++ (flagL x.f2 :: sh x.f1)
theorem batchRows_bytes : ∀ (l : List S85) (acc : ByteArray), bytesOf (batchRows acc l) = bytesOf acc ++ l.flatMap changeBytes
 | [],acc => by simp [batchRows]
 | x :: t,acc => by
  rw [batchRows,batchRows_bytes t];simp only [bytesOf_append,bytesOf_shortText,bytesOf_flagT,List.flatMap_cons,changeBytes,List.append_assoc,List.cons_append,List.nil_append]
theorem batch_parts {st : Int} {l : List S85} {s : ByteArray} (h : batchText st l = (s, true)) : batchOk st l = true ∧ bytesOf s = varL st.toNat ++ (varL l.length ++ l.flatMap changeBytes) := by
 unfold batchText at h
 by_cases hk : batchOk st l = true
 ·rw [if_pos hk] at h;refine ⟨hk,?_⟩;rw [← (Prod.mk.inj h).1,batchRows_bytes];simp only [bytesOf_append,bytesOf_varText,List.append_assoc]
 ·rw [if_neg hk] at h;simp at h
def BDec (x0 : ByteArray) (r : Int × List S85 × Bool) : Prop := r = (0, [], false) ∨ ∃ st l, r = (st, l, true) ∧ batchText st l = (x0, true)
theorem spec_ReadBatch_fin (x0 s : ByteArray) (n i a : Int) (b : Bool) (st : Int) (acc : List S85) (hl : acc.length ≤ 1048576) : To (fun k => spec_ReadBatch.j1 k x0 n i false s a b st acc) (BDec x0) := by
 refine To.step (fun _ => rfl) ?_;simp only [spec_ReadBatch.j1];refine To.neg (by simp) (To.bind (To.ev (P:=fun r => r = batchText st acc) (spec_BatchText_ev st acc hl) rfl) (fun r e => ?_));refine To.ite (fun _ => To.now (Or.inl rfl)) (fun _ => To.ite (fun q1 => To.ite (fun q2 => To.now (Or.inr ⟨_,_,rfl,?_⟩)) (fun _ => To.now (Or.inl rfl))) (fun _ => To.now (Or.inl rfl)));rw [← e];exact Prod.ext (toList_inj.1 q2) q1
theorem spec_ReadBatch_loop (x0 s : ByteArray) (hs : s.size ≤ 1048575) (N st : Int) (hN : N ≤ 1000000000) : ∀ (m : Nat) (i a : Int) (b : Bool) (acc : List S85), 0 ≤ i → 0 ≤ a → a ≤ s.size → (acc.length : Int) ≤ a + (if b = true then 1 else 0) → (s.size : Int) - a + (if b = true then 0 else 1) ≤ m → acc.length ≤ 1048576 →
  To (fun k => spec_ReadBatch.l0 k x0 N i s a b st acc) (BDec x0):=by
 intro m
 induction m with
 | zero =>
  intro i a b acc hi h0 h1 h2 h3 h4
  obtain rfl : b = true:=by cases b <;> simp_all;omega
  refine To.step (fun _ => rfl) ?_;simp only [spec_ReadBatch.l0];exact To.ite (fun _ => spec_ReadBatch_fin x0 s N i a true st acc h4) (fun _ => spec_ReadBatch_fin x0 s N i a true st acc h4)
 | succ m ih =>
  intro i a b acc hi h0 h1 h2 h3 h4;refine To.step (fun _ => rfl) ?_;simp only [spec_ReadBatch.l0]
  cases b with
  | true => exact To.ite (fun _ => spec_ReadBatch_fin x0 s N i a true st acc h4) (fun _ => spec_ReadBatch_fin x0 s N i a true st acc h4)
  | false =>
   simp only [Bool.false_eq_true,if_false] at h2 h3;refine To.ite (fun c => ?_) (fun _ => spec_ReadBatch_fin x0 s N i a false st acc h4);refine To.step (fun _ => rfl) ?_;simp only [spec_ReadBatch.j1,Bool.not_false];have p1:=curShort_place (s:=s) (a:=a) (bad:=false) h0 h1;refine To.pos trivial (To.bind (To.ev (P:=fun r => r = curShort s a false) (spec_l05ReadShort_ev s a false (by omega) h0 h1) rfl) (fun r1 e1 => ?_))
   have t1 : r1.2.1 = s:=by rw [e1];exact curShort_text _ _ _
   rw [← e1] at p1;rw [t1];refine To.call (P:=fun r => r = curTake s r1.2.2.1 r1.2.2.2 1) ⟨_,spec_l05Take_eq s _ 1 _ (by omega) p1.1 p1.2 (by omega) (by omega),rfl⟩ (fun r2 e2 => ?_)
   have t2 : r2.2.1 = s:=by rw [e2];exact curTake_text _ _ _ _
   have p2 : 0 ≤ r2.2.2.1 ∧ r2.2.2.1 ≤ s.size:=by rw [e2];exact curTake_place p1.1 p1.2 (by omega)
   rw [t2];refine To.bind (To.ev (P:=fun r => r = curShort s r2.2.2.1 r2.2.2.2) (spec_l05ReadShort_ev s _ _ (by omega) p2.1 p2.2) rfl) (fun r3 e3 => ?_)
   have t3 : r3.2.1 = s:=by rw [e3];exact curShort_text _ _ _
   have p3 : 0 ≤ r3.2.2.1 ∧ r3.2.2.1 ≤ s.size:=by rw [e3];exact curShort_place p2.1 p2.2
   rw [t3];refine To.pos (by omega) ?_;rw [wrap64_id (by omega) (by omega)]
   cases hb : r3.2.2.2 with
   | true =>
    refine To.step (fun _ => rfl) ?_;simp only [spec_ReadBatch.l0];exact To.ite (fun _ => spec_ReadBatch_fin x0 s N _ _ true st _ (by simp;omega)) (fun _ => spec_ReadBatch_fin x0 s N _ _ true st _ (by simp;omega))
   | false =>
    rw [e3] at hb;obtain ⟨hb2,m3⟩:=curShort_good' p2.1 p2.2 hb;rw [← e3] at m3;rw [e2] at hb2;obtain ⟨hb1,m2,-⟩:=curTake_good' p1.1 (by omega) hb2;rw [← e2] at m2;rw [e1] at hb1;obtain ⟨-,m1⟩:=curShort_good' h0 h1 hb1;rw [← e1] at m1;have l1:=m1.le;have l2:=m2.le;have l3:=m3.le;have v1:=varL_pos r1.1.size;rw [sh,List.length_append] at l1;exact ih _ _ false _ (by omega) p3.1 p3.2 (by simp;omega) (by simp;omega) (by simp;omega)
theorem spec_ReadBatch_to (s : ByteArray) (hs : s.size ≤ 1048575) : To (fun k => spec_ReadBatch.f k s) (BDec s) := by
 unfold spec_ReadBatch.f
 refine To.bind (To.ev (P:=fun r => r = curNum s 0 false) (spec_l05Var_ev s 0 false (by omega)) rfl) (fun r1 e1 => ?_)
 have p1 : r1.2.1 = s ∧ 0 ≤ r1.2.2.1 ∧ r1.2.2.1 ≤ s.size:=by rw [e1];exact ⟨curNum_text _ _ _,curNum_place (by omega) (by omega)⟩
 rw [p1.1];refine To.bind (To.ev (P:=fun r => r = curNum s r1.2.2.1 r1.2.2.2) (spec_l05Var_ev s _ _ (by omega)) rfl) (fun r2 e2 => ?_)
 have p2 : r2.2.1 = s ∧ 0 ≤ r2.2.2.1 ∧ r2.2.2.1 ≤ s.size:=by rw [e2];exact ⟨curNum_text _ _ _,curNum_place p1.2.1 p1.2.2⟩
 rw [p2.1]
 have hn : r2.1 ≤ 1000000000:=by rw [e2];exact (curNum_nonneg _ _ _).2
 exact spec_ReadBatch_loop s s (by omega) r2.1 r1.1 hn (s.size + 1) 0 r2.2.2.1 r2.2.2.2 [] (by omega) p2.2.1 p2.2.2 (by simp;split <;> omega) (by split <;> omega) (by simp)
theorem spec_ReadBatch_fwd (x0 s : ByteArray) (hs : s.size ≤ 1048576) (st : Int) (l : List S85) (hl : l.length ≤ 60) (h : batchText st l = (x0, true)) : ∀ (rest : List S85) (n : Nat) (acc : List S85) (a : Int), acc ++ rest = l → acc.length = n → (∀ x ∈ rest, (1 ≤ x.f0.size ∧ x.f0.size ≤ 10) ∧ x.f1.size ≤ 40) → At s a (rest.flatMap changeBytes) s.size →
  Ev (fun k => spec_ReadBatch.l0 k x0 (l.length : Int) (n : Int) s a false st acc) (st,l,true):=by
 intro rest
 induction rest with
 | nil =>
  intro n acc a h1 h2 h3 h4;rw [List.append_nil] at h1;subst h1;refine Ev.step (fun _ => rfl) ?_;simp only [spec_ReadBatch.l0];refine Ev.neg (by omega) (Ev.step (fun _ => rfl) ?_);simp only [spec_ReadBatch.j1];exact Ev.neg (by simp) (Ev.bind (Ev.eq (spec_BatchText_ev st acc (by omega)) h) (Ev.neg (by simp) (Ev.pos rfl (Ev.pos rfl (Ev.now _)))))
 | cons x t ih =>
  intro n acc a h1 h2 h3 h4
  have hlen : acc.length + (t.length + 1) = l.length:=by rw [← h1];simp
  obtain ⟨z0,z1⟩:=h3 x List.mem_cons_self;rw [List.flatMap_cons,changeBytes,List.append_assoc] at h4;obtain ⟨q1,h4⟩:=h4.split;obtain ⟨q2,h4⟩:=at_cons h4;obtain ⟨q3,h4⟩:=At.split (P:=sh x.f1) h4;have l1:=q1.le;have l2:=q2.le;have l3:=q3.le;refine Ev.step (fun _ => rfl) ?_;simp only [spec_ReadBatch.l0];refine Ev.pos (by omega) (Ev.step (fun _ => rfl) ?_);simp only [spec_ReadBatch.j1,Bool.not_false,wrap64_succ (show n ≤ 9223372036854775806 by omega)];refine Ev.pos trivial (Ev.bind (Ev.eq (spec_l05ReadShort_ev s a false (by omega) (by omega) (by omega)) (curShort_fwd q1 (by omega))) (Ev.call ((spec_l05Take_eq s (a + ((sh x.f0).length : Int)) 1 false (by omega) (by omega) (by omega) (by omega) (by omega)).trans (congrArg some (take_flag q2))) (Ev.bind (Ev.eq (spec_l05ReadShort_ev s (a + ((sh x.f0).length : Int) + 1) false (by omega) (by omega) (by omega)) (curShort_fwd q3 (by omega))) (Ev.pos (by omega) ?_))));simp only [(flag_at x.f2).2.2.1];exact ih (n + 1) _ _ (by rw [← h1,List.append_assoc];rfl) (by simp [h2]) (fun y hy => h3 y (List.mem_cons_of_mem _ hy)) h4
theorem spec_ReadBatch_good (s : ByteArray) (hs : s.size ≤ 1048576) (st : Int) (l : List S85) (h : batchText st l = (s, true)) : Ev (fun k => spec_ReadBatch.f k s) (st, l, true) := by
 obtain ⟨hk,hb⟩:=batch_parts h;obtain ⟨b1,b2,b3⟩:=batchOk_bounds hk;have hw:=At.whole s;rw [hb] at hw;obtain ⟨q1,hw⟩:=hw.split;obtain ⟨q2,hw⟩:=hw.split
 unfold spec_ReadBatch.f
 refine Ev.bind (Ev.eq (spec_l05Var_ev s 0 false (by omega)) (curNum_fwd q1 (by omega))) (Ev.bind (Ev.eq (spec_l05Var_ev s _ false (by omega)) (curNum_fwd q2 (by omega))) ?_);simp only [Int.toNat_of_nonneg b1.1];exact spec_ReadBatch_fwd s s hs st l b2 h l 0 [] _ rfl rfl b3 hw
theorem impl_BatchOk_loop (st : Int) (l : List S85) (hl : l.length ≤ 1048576) : ∀ (rest : List S85) (n : Nat), l.drop n = rest → Ev (fun k => impl_BatchOk.l0 k l (l.length : Int) (n : Int) st l) (batchIn (keyOfC l n) rest && (inR st 0 100000 && decide (l.length ≤ 60))) := by
 intro rest
 induction rest with
 | nil =>
  intro n h;have:=drop_nil h;refine Ev.step (fun _ => rfl) ?_;simp only [impl_BatchOk.l0];refine Ev.neg (by omega) (Ev.call (impl_within_eq _ _ _) ?_);rw [batchIn,Bool.true_and]
  cases inR st 0 100000
  ·exact Ev.neg (by simp) (Ev.done (by simp))
  ·exact Ev.pos rfl (Ev.done (by rw [Bool.true_and];exact decide_eq_decide.2 (by omega)))
 | cons x t ih =>
  intro n h;obtain ⟨h1,-,h3⟩:=drop_cons h
  have hk : keyOfC l (n + 1) = some x.f0:=by rw [keyOfC,rdT85_drop h]
  have ih:=ih (n + 1) h3;rw [hk] at ih
  have prev : ∀ r,r = (keyUp (keyOfC l n) x.f0 && (batchIn (some x.f0) t && (inR st 0 100000 && decide (l.length ≤ 60)))) → Ev (fun k => if (n : Int) > 0 then (if 0 ≤ (wrap64 ((n : Int) - 1)) then (if (wrap64 ((n : Int) - 1)) < (l.length : Int) then (if ((Op.bytesLess (((rd_T85 l (wrap64 ((n : Int) - 1))).f0).toList) (x.f0.toList)) = true) then (impl_BatchOk.l0 k l (l.length : Int) ((n + 1 : Nat) : Int) st l) else some false) else none) else none) else (impl_BatchOk.l0 k l (l.length : Int) ((n + 1 : Nat) : Int) st l)) r:=by
   rintro r rfl
   cases n with
   | zero => exact Ev.neg (by omega) (Ev.eq ih (by simp [keyOfC,keyUp]))
   | succ m =>
    simp only [wrap64_pred (show m ≤ 9223372036854775806 by omega)];refine Ev.pos (by omega) (Ev.pos (by omega) (Ev.pos (by omega) (Ev.ite (fun hc => Ev.eq ih ?_) (fun hc => Ev.done ?_))))
    ·simp only [keyOfC,keyUp,hc];simp
    ·simp only [keyOfC,keyUp,Bool.eq_false_iff.2 hc];simp
  refine Ev.step (fun _ => rfl) ?_;simp only [impl_BatchOk.l0,rdT85_drop h,wrap64_succ (show n ≤ 9223372036854775806 by omega)];refine Ev.pos (by omega) (Ev.pos (by omega) (Ev.pos (by omega) (Ev.call (impl_keyOk_eq _) ?_)));rw [batchIn]
  cases h0 : inR x.f0.size 1 10
  ·exact Ev.neg (by simp) (Ev.done (by simp))
  refine Ev.pos rfl (Ev.ite (fun c => Ev.done (by rw [decide_eq_false (show ¬ x.f1.size ≤ 40 by omega)];simp)) (fun c => ?_));rw [decide_eq_true (show x.f1.size ≤ 40 by omega)];refine Ev.ite (fun c2 => Ev.ite (fun c3 => prev _ ?_) (fun c3 => Ev.done ?_)) (fun c2 => prev _ ?_)
  ·rw [c2,(emp_iff _).1 c3];simp [Bool.and_assoc]
  ·rw [c2,show emp x.f1 = false by simpa using fun e => c3 ((emp_iff _).2 e)];simp
  ·rw [show x.f2 = false by simpa using c2];simp [Bool.and_assoc]
theorem impl_BatchOk_ev (st : Int) (l : List S85) (hl : l.length ≤ 1048576) : Ev (fun k => impl_BatchOk.f k st l) (batchOk st l) := by
 refine Ev.eq (impl_BatchOk_loop st l hl l 0 rfl) ?_
 unfold batchOk
 show (batchIn none l && _) = _
 cases inR st 0 100000 <;> cases decide (l.length ≤ 60) <;> simp
theorem impl_BatchText_loop (l : List S85) (hl : l.length ≤ 60) (hd : ∀ x ∈ l, (1 ≤ x.f0.size ∧ x.f0.size ≤ 10) ∧ x.f1.size ≤ 40) : ∀ (rest : List S85) (n : Nat) (acc : ByteArray), l.drop n = rest → acc.size + 100 * rest.length ≤ 100000 →
  Ev (fun k => impl_BatchText.l0 k acc l (l.length : Int) (n : Int)) (batchRows acc rest,true):=by
 intro rest
 induction rest with
 | nil =>
  intro n acc h ha;have:=drop_nil h;refine Ev.step (fun _ => rfl) ?_;simp only [impl_BatchText.l0];rw [batchRows];exact Ev.neg (by omega) (Ev.now _)
 | cons x r ih =>
  intro n acc h ha;obtain ⟨h1,-,h3⟩:=drop_cons h;have hm:=hd x (List.mem_of_mem_drop (h ▸ List.mem_cons_self));have s0:=shortText_size (show x.f0.size ≤ 34359738367 by omega);have s1:=shortText_size (show x.f1.size ≤ 34359738367 by omega);have sf:=flagT_size x.f2;rw [List.length_cons] at ha;refine Ev.step (fun _ => rfl) ?_;simp only [impl_BatchText.l0,rdT85_drop h,wrap64_succ (show n ≤ 9223372036854775806 by omega)];rw [batchRows];have hn:=ih (n + 1) (acc ++ ((shortText x.f0 ++ flagT x.f2) ++ shortText x.f1)) h3 (by simp only [size_append];omega);rw [show acc ++ shortText x.f0 ++ flagT x.f2 ++ shortText x.f1 = acc ++ ((shortText x.f0 ++ flagT x.f2) ++ shortText x.f1) by simp only [ByteArray.append_assoc]];exact Ev.pos (by omega) (Ev.pos (by omega) (Ev.pos (by omega) (Ev.bind (impl_short_ev x.f0 (by omega)) (Ev.call (impl_flag_eq x.f2) (Ev.pos (by omega) (Ev.bind (impl_short_ev x.f1 (by omega)) (Ev.pos (by simp only [size_append];omega) (Ev.pos (by simp only [size_append];omega) hn))))))))
theorem impl_vars2 (st : Int) (n : Nat) (h : 0 ≤ st ∧ st ≤ 100000) (hn : n ≤ 60) : Ev (fun k => impl_vars.f k [st, (n : Int)]) (varText st.toNat ++ varText n, true) := by
 refine Ev.eq (impl_vars_ev _ (by simp)) ?_;rw [varsOf,if_pos (by simp [inR_true];omega)]
 simp [varText,strOfNums_append]
theorem impl_BatchText_ev (st : Int) (l : List S85) (hl : l.length ≤ 1048576) : Ev (fun k => impl_BatchText.f k st l) (batchText st l) := by
 unfold impl_BatchText.f batchText
 refine Ev.bind (impl_BatchOk_ev st l hl) (Ev.ite (fun hk => ?_) (fun hk => Ev.done (by rw [if_neg hk])));rw [if_pos hk];obtain ⟨b1,b2,b3⟩:=batchOk_bounds hk;have s1:=varText_size (show st.toNat ≤ 34359738367 by omega);have s2:=varText_size (show l.length ≤ 34359738367 by omega);exact Ev.bind (impl_vars2 st l.length b1 b2) (impl_BatchText_loop l b2 b3 l 0 _ rfl (by simp only [size_append];omega))
theorem impl_ReadBatch_step (s : ByteArray) (hs : s.size ≤ 1048576) (a : Int) (h0 : 0 ≤ a) (h1 : a ≤ s.size) (acc : List S85) (hl : acc.length ≤ 1048577) : To (fun k => impl_ReadBatch.one k s a false acc) (fun r => r.1 = s ∧ (0 ≤ r.2.1 ∧ r.2.1 ≤ s.size) ∧ (∃ x : S85, r.2.2.2 = acc ++ [x]) ∧ (r.2.2.1 = false → a < r.2.1)) := by
 unfold impl_ReadBatch.one
 refine To.bind (To.ev (P:=fun r => r = curText s a false) (impl_reader_text_ev s a false (by omega)) rfl) (fun r1 e1 => ?_)
 have p1 : r1.2.1 = s ∧ 0 ≤ r1.2.2.1 ∧ r1.2.2.1 ≤ s.size:=by rw [e1];exact ⟨curText_text _ _ _,curText_place h0 h1⟩
 rw [p1.1];refine To.call (P:=fun r => r = curByte s r1.2.2.1 r1.2.2.2) ⟨_,impl_reader_byte_eq s _ _ (by omega) p1.2.1 p1.2.2,rfl⟩ (fun r2 e2 => ?_)
 have p2 : r2.2.1 = s ∧ 0 ≤ r2.2.2.1 ∧ r2.2.2.1 ≤ s.size:=by rw [e2];exact ⟨curByte_text _ _ _,curByte_place p1.2.1 p1.2.2⟩
 rw [p2.1];refine To.bind (To.ev (P:=fun r => r = curText s r2.2.2.1 r2.2.2.2) (impl_reader_text_ev s _ _ (by omega)) rfl) (fun r3 e3 => ?_)
 have p3 : r3.2.1 = s ∧ 0 ≤ r3.2.2.1 ∧ r3.2.2.1 ≤ s.size:=by rw [e3];exact ⟨curText_text _ _ _,curText_place p2.2.1 p2.2.2⟩
 refine To.pos (by omega) (To.now ⟨p3.1,p3.2,⟨_,rfl⟩,fun hb => ?_⟩);dsimp only at hb ⊢;rw [e3] at hb;obtain ⟨hb2,m3,-⟩:=curText_good' hb;rw [← e3] at m3;rw [e2] at hb2;obtain ⟨hb1,m2,-⟩:=curByte_good' p1.2.1 hb2;rw [← e2] at m2;have l2:=m2.le;have l3:=m3.le;simp only [List.length_singleton] at l2;rw [e1] at hb1;obtain ⟨-,m1,-⟩:=curText_good' hb1;rw [← e1] at m1;have l1:=m1.le
 omega
theorem impl_ReadBatch_loop (s : ByteArray) (hs : s.size ≤ 1048576) (N : Int) : ∀ (m : Nat) (i a : Int) (b : Bool) (acc : List S85), 0 ≤ a → a ≤ s.size → (acc.length : Int) ≤ a + (if b = true then 1 else 0) → (s.size : Int) - a + (if b = true then 0 else 1) ≤ m →
  To (fun k => impl_ReadBatch.l0 k N i s a b acc) (fun r => r.1 = s ∧ r.2.2.2.length ≤ s.size + 1):=by
 intro m
 induction m with
 | zero =>
  intro i a b acc h0 h1 h2 h3
  obtain rfl : b = true:=by cases b <;> simp_all;omega
  simp only [if_true] at h2;refine To.step (fun _ => rfl) ?_;simp only [impl_ReadBatch.l0];exact To.ite (fun _ => To.pos (by simp) (To.now ⟨rfl,by dsimp only;omega⟩)) (fun _ => To.now ⟨rfl,by dsimp only;omega⟩)
 | succ m ih =>
  intro i a b acc h0 h1 h2 h3;refine To.step (fun _ => rfl) ?_;simp only [impl_ReadBatch.l0]
  cases b with
  | true =>
   simp only [if_true] at h2;exact To.ite (fun _ => To.pos (by simp) (To.now ⟨rfl,by dsimp only;omega⟩)) (fun _ => To.now ⟨rfl,by dsimp only;omega⟩)
  | false =>
   simp only [Bool.false_eq_true,if_false] at h2 h3;refine To.ite (fun c => To.neg (by simp) (To.bind (impl_ReadBatch_step s (by omega) a h0 h1 acc (by omega)) (fun r p => ?_))) (fun c => To.now ⟨rfl,by dsimp only;omega⟩);obtain ⟨s',a',b',out'⟩:=r;obtain ⟨p1,p2,⟨x,p3⟩,p5⟩:=p;dsimp only at p1 p2 p3 p5 ⊢;subst p1;subst p3
   cases b' with
   | true =>
    refine To.step (fun _ => rfl) ?_;simp only [impl_ReadBatch.l0];exact To.ite (fun _ => To.pos (by simp) (To.now ⟨rfl,by simp;omega⟩)) (fun _ => To.now ⟨rfl,by simp;omega⟩)
   | false =>
    have:=p5 rfl;exact ih _ a' false (acc ++ [x]) p2.1 p2.2 (by simp;omega) (by simp;omega)
theorem impl_ReadBatch_to (s : ByteArray) (hs : s.size ≤ 1048575) : To (fun k => impl_ReadBatch.f k s) (BDec s) := by
 unfold impl_ReadBatch.f
 refine To.bind (To.ev (P:=fun r => r = curNum s 0 false) (impl_reader_num_ev s 0 false (by omega)) rfl) (fun r1 e1 => ?_)
 have p1 : r1.2.1 = s ∧ 0 ≤ r1.2.2.1 ∧ r1.2.2.1 ≤ s.size:=by rw [e1];exact ⟨curNum_text _ _ _,curNum_place (by omega) (by omega)⟩
 rw [p1.1];refine To.bind (P:=fun (r : ByteArray × Int × Bool × List S85) => r.1 = s ∧ r.2.2.2.length ≤ s.size + 1) ?_ (fun r p => ?_)
 ·unfold impl_ReadBatch.each
  refine To.bind (To.ev (P:=fun r => r = curNum s r1.2.2.1 r1.2.2.2) (impl_reader_num_ev s _ _ (by omega)) rfl) (fun r2 e2 => ?_)
  have p2 : r2.2.1 = s ∧ 0 ≤ r2.2.2.1 ∧ r2.2.2.1 ≤ s.size:=by rw [e2];exact ⟨curNum_text _ _ _,curNum_place p1.2.1 p1.2.2⟩
  rw [p2.1];exact impl_ReadBatch_loop s (by omega) r2.1 (s.size + 1) 0 r2.2.2.1 r2.2.2.2 [] p2.2.1 p2.2.2 (by simp;split <;> omega) (by split <;> omega)
 ·refine To.bind (To.ev (P:=fun z => z = batchText r1.1 r.2.2.2) (impl_BatchText_ev _ _ (by omega)) rfl) (fun z ez => ?_);refine To.ite (fun _ => To.now (Or.inl rfl)) (fun _ => To.ite (fun q1 => To.ite (fun q2 => To.now (Or.inr ⟨_,_,rfl,?_⟩)) (fun _ => To.now (Or.inl rfl))) (fun _ => To.now (Or.inl rfl)));rw [← ez];exact Prod.ext (toList_inj.1 q2) q1
theorem impl_ReadBatch_fwd (s : ByteArray) (hs : s.size ≤ 1048576) : ∀ (rest : List S85) (i : Nat) (acc : List S85) (a b : Int), (∀ x ∈ rest, (1 ≤ x.f0.size ∧ x.f0.size ≤ 10) ∧ x.f1.size ≤ 40) → i + rest.length ≤ 60 → acc.length = i → At s a (rest.flatMap changeBytes) b →
  Ev (fun k => impl_ReadBatch.l0 k ((i + rest.length : Nat) : Int) (i : Int) s a false acc) (s,b,false,acc ++ rest):=by
 intro rest
 induction rest with
 | nil =>
  intro i acc a b h1 h2 h3 h4;refine Ev.step (fun _ => rfl) ?_;simp only [impl_ReadBatch.l0];have:=h4.le;refine Ev.neg (by simp) (Ev.done ?_);simp only [List.flatMap_nil,List.length_nil] at this;rw [List.append_nil,show a = b by omega]
 | cons x t ih =>
  intro i acc a b h1 h2 h3 h4;rw [List.length_cons] at h2;obtain ⟨z0,z1⟩:=h1 x List.mem_cons_self;rw [List.flatMap_cons,changeBytes,List.append_assoc] at h4;obtain ⟨q1,h4⟩:=h4.split;obtain ⟨q2,h4⟩:=at_cons h4;obtain ⟨q3,h4⟩:=At.split (P:=sh x.f1) h4;have l1:=q1.le;have l2:=q2.le;have l3:=q3.le;refine Ev.step (fun _ => rfl) ?_;simp only [impl_ReadBatch.l0,impl_ReadBatch.one,wrap64_succ (show i ≤ 9223372036854775806 by omega)];refine Ev.pos (by simp only [List.length_cons];omega) (Ev.neg (by simp) (Ev.bind (a:=(s,a + ((sh x.f0).length : Int) + 1 + ((sh x.f1).length : Int),false,acc ++ [x])) ?_ ?_))
  ·refine Ev.bind (Ev.eq (impl_reader_text_ev s a false (by omega)) (curText_fwd q1 (by omega))) (Ev.call ((impl_reader_byte_eq s (a + ((sh x.f0).length : Int)) false (by omega) (by omega) (by omega)).trans (congrArg some (curByte_fwd q2))) (Ev.bind (Ev.eq (impl_reader_text_ev s _ false (by omega)) (curText_fwd q3 (by omega))) (Ev.pos (by omega) (Ev.done ?_))));simp only [(flag_at x.f2).2.2.2]
  ·have:=ih (i + 1) (acc ++ [x]) _ b (fun y hy => h1 y (List.mem_cons_of_mem _ hy)) (by omega) (by simp [h3]) h4;rw [show i + 1 + t.length = i + (x :: t).length by simp;omega] at this;exact Ev.eq this (by simp)
theorem impl_ReadBatch_good (s : ByteArray) (hs : s.size ≤ 1048576) (st : Int) (l : List S85) (h : batchText st l = (s, true)) : Ev (fun k => impl_ReadBatch.f k s) (st, l, true) := by
 obtain ⟨hk,hb⟩:=batch_parts h;obtain ⟨b1,b2,b3⟩:=batchOk_bounds hk;have hw:=At.whole s;rw [hb] at hw;obtain ⟨q1,hw⟩:=hw.split;obtain ⟨q2,hw⟩:=hw.split
 unfold impl_ReadBatch.f impl_ReadBatch.each
 refine Ev.bind (Ev.eq (impl_reader_num_ev s 0 false (by omega)) (curNum_fwd q1 (by omega))) (Ev.bind (a:=(s,(s.size : Int),false,l)) ?_ ?_)
 ·refine Ev.bind (Ev.eq (impl_reader_num_ev s _ false (by omega)) (curNum_fwd q2 (by omega))) ?_;have:=impl_ReadBatch_fwd s hs l 0 [] _ _ b3 (by omega) rfl hw;rw [Nat.zero_add] at this;exact this
 ·simp only [Int.toNat_of_nonneg b1.1];exact Ev.bind (Ev.eq (impl_BatchText_ev st l (by omega)) h) (Ev.neg (by simp) (Ev.pos rfl (Ev.pos rfl (Ev.now _))))
def RB (s : ByteArray) (r : Int × List S85 × Bool) : Prop := Ev (fun k => spec_ReadBatch.f k s) r ∧ Ev (fun k => impl_ReadBatch.f k s) r ∧ (r.2.2 = true → batchOk r.1 r.2.1 = true)
theorem readBatch_both (s : ByteArray) (hs : s.size ≤ 1048575) : ∃ r, RB s r := by
 by_cases hex : ∃ st l,batchText st l = (s,true)
 ·obtain ⟨st,l,h⟩:=hex;exact ⟨(st,l,true),spec_ReadBatch_good s (by omega) st l h,impl_ReadBatch_good s (by omega) st l h,fun _ => (batch_parts h).1⟩
 ·obtain ⟨r,hr,p⟩:=spec_ReadBatch_to s hs;obtain ⟨r',hr',p'⟩:=impl_ReadBatch_to s hs
  rcases p with rfl|⟨st,l,-,h⟩
  ·rcases p' with rfl|⟨st,l,-,h⟩
   ·exact ⟨_,hr,hr',fun h => by cases h⟩
   ·exact absurd ⟨st,l,h⟩ hex
  ·exact absurd ⟨st,l,h⟩ hex
def spotsAt (seg : Int) : Int → List S85 → List S88
 | _,[] => []
 | a,x :: t => (if x.f2 = true then (⟨x.f0,seg,0,-1⟩ : S88) else ⟨x.f0,seg,a + ((shortText x.f0).size : Int) + 1 + ((varText x.f1.size).size : Int),(x.f1.size : Int)⟩) :: spotsAt seg (a + ((shortText x.f0).size : Int) + 1 + ((varText x.f1.size).size : Int) + (x.f1.size : Int)) t
theorem spotsAt_length (seg : Int) : ∀ (l : List S85) (a : Int), (spotsAt seg a l).length = l.length
 | [],_ => rfl
 | x :: t,a => by rw [spotsAt,List.length_cons,List.length_cons,spotsAt_length seg t]
theorem short_sz (t : ByteArray) : (shortText t).size = (varText t.size).size + t.size := by rw [shortText, size_append]
theorem frame_le8 (s : ByteArray) : (frame s).1.size ≤ 9009 := by
 unfold frame
 split
 ·rename_i h
  have:=inR_true.1 h;have hv:=varText_size (show s.size ≤ 34359738367 by omega);have h4:=four_size (sumOf s);simp only [size_append];omega
 ·exact Nat.zero_le _
def scanOn (rb : ByteArray → Int × List S85 × Bool) (seg : Int) : Int → List ByteArray → List S88 × List ByteArray × Int → List S88 × List ByteArray × Int
 | _,[],r => r
 | a,c :: t,r => if (rb c).2.2 = true then scanOn rb seg (a + ((frame c).1.size : Int)) t (r.1 ++ spotsAt seg (a + ((frame c).1.size : Int) - (c.size : Int) + ((varText (rb c).1.toNat).size : Int) + ((varText (rb c).2.1.length).size : Int)) (rb c).2.1,r.2.1 ++ [c],mx r.2.2 (rb c).1) else r
theorem spec_ScanSeg_inner (seg : Int) (tx : List ByteArray) (stamp : Int) (list : List ByteArray) (at_ : Int) (i : Nat) (f : ByteArray) (st : Int) (l : List S85) (hl : l.length ≤ 60) (hd : ∀ x ∈ l, (1 ≤ x.f0.size ∧ x.f0.size ≤ 10) ∧ x.f1.size ≤ 40) (hi : i < list.length) (htx : tx.length ≤ 20000) (r : List S88 × List ByteArray × Int) : ∀ (rest : List S85) (n : Nat) (a : Int) (sp : List S88), l.drop n = rest → sp.length + rest.length ≤ 10000000 → -1000000 ≤ a → a + 1000 * (rest.length : Int) ≤ 1000000000000 →
  Ev (fun k => spec_ScanSeg.l0 k seg (sp ++ spotsAt seg a rest) (tx ++ [rdOf ByteArray.empty list (i : Int)]) (mx stamp st) list (wrap64 (at_ + (f.size : Int))) (wrap64 ((i : Int) + 1))) r →
  Ev (fun k => spec_ScanSeg.l1 k seg sp tx stamp list at_ (i : Int) f a (n : Int) st l) r:=by
 intro rest
 induction rest with
 | nil =>
  intro n a sp h hs h0 h1 hk;have:=drop_nil h;rw [spotsAt,List.append_nil,mx] at hk;refine Ev.step (fun _ => rfl) ?_;simp only [spec_ScanSeg.l1];refine Ev.neg (by omega) (Ev.ite (fun c => Ev.pos (by omega) (Ev.pos (by omega) (Ev.pos (by omega) ?_))) (fun c => Ev.pos (by omega) (Ev.pos (by omega) (Ev.pos (by omega) ?_))))
  ·rw [if_pos (show stamp < st by omega)] at hk;exact hk
  ·rw [if_neg (show ¬ stamp < st by omega)] at hk;exact hk
 | cons x t ih =>
  intro n a sp h hs h0 h1 hk;obtain ⟨h2,-,h3⟩:=drop_cons h;have hm:=hd x (List.mem_of_mem_drop (h ▸ List.mem_cons_self));have s0:=shortText_size (show x.f0.size ≤ 34359738367 by omega);have s1:=varText_size (show x.f1.size ≤ 34359738367 by omega);rw [List.length_cons] at h1 hs;rw [spotsAt] at hk;refine Ev.step (fun _ => rfl) ?_;simp only [spec_ScanSeg.l1,rdT85_drop h,wrap64_succ (show n ≤ 9223372036854775806 by omega)];refine Ev.pos (by omega) (Ev.pos (by omega) (Ev.bind (spec_l05Short_ev x.f0 (by omega)) (Ev.bind (spec_l01Var_nat x.f1.size (by omega)) ?_)));rw [wrap64_id (n:=a + ((shortText x.f0).size : Int)) (by omega) (by omega),wrap64_id (n:=a + ((shortText x.f0).size : Int) + 1) (by omega) (by omega),wrap64_id (n:=a + ((shortText x.f0).size : Int) + 1 + ((varText x.f1.size).size : Int)) (by omega) (by omega),wrap64_id (n:=a + ((shortText x.f0).size : Int) + 1 + ((varText x.f1.size).size : Int) + (x.f1.size : Int)) (by omega) (by omega)];refine Ev.ite (fun c => Ev.pos (by omega) ?_) (fun c => Ev.pos (by omega) ?_)
  ·rw [if_pos c] at hk;exact ih (n + 1) _ _ h3 (by simp;omega) (by omega) (by omega) (by simpa using hk)
  ·rw [if_neg c] at hk;exact ih (n + 1) _ _ h3 (by simp;omega) (by omega) (by omega) (by simpa using hk)
theorem spec_ScanSeg_loop (rb : ByteArray → Int × List S85 × Bool) (hrb : ∀ c, c.size ≤ 9000 → Ev (fun k => spec_ReadBatch.f k c) (rb c) ∧ ((rb c).2.2 = true → batchOk (rb c).1 (rb c).2.1 = true)) (seg : Int) (list : List ByteArray) (hl : list.length ≤ 20000) (hc : ∀ c ∈ list, c.size ≤ 9000) : ∀ (rest : List ByteArray) (n : Nat) (a : Int) (sp : List S88) (tx : List ByteArray) (stamp : Int), list.drop n = rest → sp.length ≤ 60 * n → tx.length = n → 0 ≤ a → a ≤ 9009 * (n : Int) →
  Ev (fun k => spec_ScanSeg.l0 k seg sp tx stamp list a (n : Int)) (scanOn rb seg a rest (sp,tx,stamp)):=by
 intro rest
 induction rest with
 | nil =>
  intro n a sp tx stamp h hs ht h0 h1;have:=drop_nil h;refine Ev.step (fun _ => rfl) ?_;simp only [spec_ScanSeg.l0];exact Ev.neg (by omega) (Ev.now _)
 | cons x r ih =>
  intro n a sp tx stamp h hs ht h0 h1;obtain ⟨h2,-,h3⟩:=drop_cons h;have hm:=hc x (List.mem_of_mem_drop (h ▸ List.mem_cons_self));have hf:=frame_le8 x;obtain ⟨q2,q3⟩:=hrb x hm;refine Ev.step (fun _ => rfl) ?_;simp only [spec_ScanSeg.l0,rdOf_drop h];rw [scanOn];refine Ev.pos (by omega) (Ev.pos (by omega) (Ev.bind q2 (Ev.ite (fun c => ?_) (fun c => Ev.done (by rw [if_neg c])))));rw [if_pos c];obtain ⟨b1,b2,b3⟩:=batchOk_bounds (q3 c);have s1:=varText_size (show (rb x).1.toNat ≤ 34359738367 by omega);have s2:=varText_size (show (rb x).2.1.length ≤ 34359738367 by omega);refine Ev.bind (spec_Frame_ev x (by omega)) (Ev.bind (spec_l01Var_ev (rb x).1 (by omega) (by omega)) (Ev.bind (spec_l01Var_nat (rb x).2.1.length (by omega)) ?_));rw [wrap64_id (n:=a + ((frame x).1.size : Int)) (by omega) (by omega),wrap64_id (n:=a + ((frame x).1.size : Int) - (x.size : Int)) (by omega) (by omega),wrap64_id (n:=a + ((frame x).1.size : Int) - (x.size : Int) + ((varText (rb x).1.toNat).size : Int)) (by omega) (by omega),wrap64_id (n:=a + ((frame x).1.size : Int) - (x.size : Int) + ((varText (rb x).1.toNat).size : Int) + ((varText (rb x).2.1.length).size : Int)) (by omega) (by omega)];refine spec_ScanSeg_inner seg tx stamp list a n (frame x).1 (rb x).1 (rb x).2.1 b2 b3 (by omega) (by omega) _ (rb x).2.1 0 _ sp rfl (by omega) (by omega) (by omega) ?_
  ·rw [rdOf_drop h,wrap64_id (n:=a + ((frame x).1.size : Int)) (by omega) (by omega),wrap64_succ (show n ≤ 9223372036854775806 by omega)];exact ih (n + 1) _ _ _ _ h3 (by rw [List.length_append,spotsAt_length];omega) (by simp [ht]) (by omega) (by omega)
theorem spec_ScanSeg_ev (rb : ByteArray → Int × List S85 × Bool) (hrb : ∀ c, c.size ≤ 9000 → Ev (fun k => spec_ReadBatch.f k c) (rb c) ∧ ((rb c).2.2 = true → batchOk (rb c).1 (rb c).2.1 = true)) (s : ByteArray) (seg : Int) : Ev (fun k => spec_ScanSeg.f k s seg) (scanOn rb seg 0 (unframe s).1 ([], [], -1)) := by
 unfold spec_ScanSeg.f
 obtain ⟨u1,u2⟩:=unframe_bounds s;exact Ev.bind (spec_Unframe_ev s) (spec_ScanSeg_loop rb hrb seg _ u1 u2 _ 0 0 [] [] (-1) rfl (by simp) rfl (by omega) (by omega))
theorem scanOn_len (rb : ByteArray → Int × List S85 × Bool) (hrb : ∀ c, c.size ≤ 9000 → ((rb c).2.2 = true → batchOk (rb c).1 (rb c).2.1 = true)) (seg : Int) : ∀ (l : List ByteArray) (a : Int) (r : List S88 × List ByteArray × Int), (∀ c ∈ l, c.size ≤ 9000) → (scanOn rb seg a l r).1.length ≤ r.1.length + 60 * l.length ∧ (scanOn rb seg a l r).2.1.length ≤ r.2.1.length + l.length
 | [],a,r,_ => by simp [scanOn]
 | c :: t,a,r,h => by
  rw [scanOn]
  split
  ·rename_i hc
   have hb:=(batchOk_bounds (hrb c (h c List.mem_cons_self) hc)).2.1;have:=scanOn_len rb hrb seg t (a + ((frame c).1.size : Int)) (r.1 ++ spotsAt seg (a + ((frame c).1.size : Int) - (c.size : Int) + ((varText (rb c).1.toNat).size : Int) + ((varText (rb c).2.1.length).size : Int)) (rb c).2.1,r.2.1 ++ [c],mx r.2.2 (rb c).1) (fun y hy => h y (List.mem_cons_of_mem _ hy));simp only [List.length_append,spotsAt_length,List.length_singleton] at this;simp only [List.length_cons]
   omega
  ·simp only [List.length_cons];omega
theorem impl_spotsOf_loop (seg : Int) (l : List S85) (hl : l.length ≤ 60) (hd : ∀ x ∈ l, (1 ≤ x.f0.size ∧ x.f0.size ≤ 10) ∧ x.f1.size ≤ 40) : ∀ (rest : List S85) (n : Nat) (a : Int) (acc : List S88), l.drop n = rest → acc.length = n → -1000000 ≤ a → a + 1000 * (rest.length : Int) ≤ 1000000000000 →
  Ev (fun k => impl_spotsOf.l0 k seg a acc l (l.length : Int) (n : Int)) (acc ++ spotsAt seg a rest):=by
 intro rest
 induction rest with
 | nil =>
  intro n a acc h ha h0 h1;have:=drop_nil h;refine Ev.step (fun _ => rfl) ?_;simp only [impl_spotsOf.l0];exact Ev.neg (by omega) (Ev.done (by simp [spotsAt]))
 | cons x r ih =>
  intro n a acc h ha h0 h1;obtain ⟨h2,-,h3⟩:=drop_cons h;have hm:=hd x (List.mem_of_mem_drop (h ▸ List.mem_cons_self));have s0:=shortText_size (show x.f0.size ≤ 34359738367 by omega);have s1:=shortText_size (show x.f1.size ≤ 34359738367 by omega);have e1:=short_sz x.f1;rw [List.length_cons] at h1;refine Ev.step (fun _ => rfl) ?_;simp only [impl_spotsOf.l0,rdT85_drop h,wrap64_succ (show n ≤ 9223372036854775806 by omega)];refine Ev.pos (by omega) (Ev.pos (by omega) (Ev.pos (by omega) (Ev.bind (impl_short_ev x.f1 (by omega)) (Ev.bind (impl_short_ev x.f0 (by omega)) ?_))));rw [wrap64_id (n:=((shortText x.f0).size : Int) + 1) (by omega) (by omega),wrap64_id (n:=((shortText x.f0).size : Int) + 1 + ((shortText x.f1).size : Int)) (by omega) (by omega),wrap64_id (n:=a + (((shortText x.f0).size : Int) + 1 + ((shortText x.f1).size : Int))) (by omega) (by omega),wrap64_id (n:=a + (((shortText x.f0).size : Int) + 1 + ((shortText x.f1).size : Int)) - (x.f1.size : Int)) (by omega) (by omega)]
  have eA : a + (((shortText x.f0).size : Int) + 1 + ((shortText x.f1).size : Int)) = a + ((shortText x.f0).size : Int) + 1 + ((varText x.f1.size).size : Int) + (x.f1.size : Int):=by omega
  have eB : a + ((shortText x.f0).size : Int) + 1 + ((varText x.f1.size).size : Int) + (x.f1.size : Int) - (x.f1.size : Int) = a + ((shortText x.f0).size : Int) + 1 + ((varText x.f1.size).size : Int):=by omega
  rw [eA,eB,spotsAt];refine Ev.ite (fun c => Ev.pos (by omega) ?_) (fun c => Ev.pos (by omega) ?_)
  ·rw [if_pos c];have:=ih (n + 1) (a + ((shortText x.f0).size : Int) + 1 + ((varText x.f1.size).size : Int) + (x.f1.size : Int)) (acc ++ [(⟨x.f0,seg,0,-1⟩ : S88)]) h3 (by simp [ha]) (by omega) (by omega);exact Ev.eq this (by simp)
  ·rw [if_neg c];have:=ih (n + 1) (a + ((shortText x.f0).size : Int) + 1 + ((varText x.f1.size).size : Int) + (x.f1.size : Int)) (acc ++ [(⟨x.f0,seg,a + ((shortText x.f0).size : Int) + 1 + ((varText x.f1.size).size : Int),(x.f1.size : Int)⟩ : S88)]) h3 (by simp [ha]) (by omega) (by omega);exact Ev.eq this (by simp)
theorem impl_spotsOf_ev (st : Int) (l : List S85) (c : ByteArray) (a seg : Int) (hk : batchOk st l = true) (h0 : -100000 ≤ a) (h1 : a ≤ 10000000000) : Ev (fun k => impl_spotsOf.f k st l c a seg) (spotsAt seg (a + ((varText st.toNat).size : Int) + ((varText l.length).size : Int)) l) := by
 obtain ⟨b1,b2,b3⟩:=batchOk_bounds hk;have s1:=varText_size (show st.toNat ≤ 34359738367 by omega);have s2:=varText_size (show l.length ≤ 34359738367 by omega)
 unfold impl_spotsOf.f
 refine Ev.bind (impl_vars2 st l.length b1 b2) ?_
 have e : wrap64 (a + ((varText st.toNat ++ varText l.length).size : Int)) = a + ((varText st.toNat).size : Int) + ((varText l.length).size : Int):=by
  rw [size_append,wrap64_id (by omega) (by omega)];omega
 dsimp only;rw [e];exact Ev.eq (impl_spotsOf_loop seg l b2 b3 l 0 _ [] rfl rfl (by omega) (by omega)) (by simp)
theorem impl_Unframe_loopB (s : ByteArray) (hs : s.size ≤ 20000) : ∀ (m : Nat) (acc : List ByteArray) (a : Int), 0 ≤ a → a ≤ s.size → (acc.length : Int) ≤ a → (s.size : Int) - a < m → Ev (fun k => impl_Unframe.l0 k s acc a) (unfr s m acc a) := by
 intro m
 induction m with
 | zero => intro acc a h0 h1 h2 h3;omega
 | succ m ih =>
  intro acc a h0 h1 h2 h3;refine Ev.step (fun _ => rfl) ?_;simp only [impl_Unframe.l0];rw [unfr];refine Ev.bind (impl_ReadVar_ev s a (by omega)) ?_
  cases hb : (readVar s a).2.2
  ·have e : unfStep s a = none:=by rw [unfStep,if_pos hb]
   refine Ev.neg (by simp) (Ev.step (fun _ => rfl) ?_);simp only [impl_Unframe.j1,e];exact Ev.pos trivial (Ev.now _)
  ·obtain ⟨p1,p2,p3,p4,p5,p6,-,-⟩:=readVar_true (readVar_res hb)
   have es : wrap64 (wrap64 ((s.size : Int) - (readVar s a).2.1) - 4) = s.size - (readVar s a).2.1 - 4:=by
    rw [wrap64_id (n:=(s.size : Int) - (readVar s a).2.1) (by omega) (by omega),wrap64_id (by omega) (by omega)]
   have e4 : wrap64 ((readVar s a).2.1 + 4) = (readVar s a).2.1 + 4:=wrap64_id (by omega) (by omega);have eb : wrap64 ((readVar s a).2.1 + 4 + (readVar s a).1) = (readVar s a).2.1 + 4 + (readVar s a).1:=wrap64_id (by omega) (by omega);refine Ev.pos rfl (Ev.step (fun _ => rfl) ?_);simp only [impl_Unframe.j1,es,e4,eb]
   by_cases h4 : (readVar s a).1 > (s.size : Int) - (readVar s a).2.1 - 4
   ·have e : unfStep s a = none:=by rw [unfStep,if_neg (by simp [hb]),if_pos h4]
    rw [e];exact Ev.pos (decide_eq_true h4) (Ev.now _)
   ·refine Ev.neg (by simp;omega) (Ev.pos (by omega) (Ev.pos (by omega) (Ev.pos (by omega) (Ev.bind (impl_Frame_ev _ (by rw [ByteArray.size_extract];omega)) (Ev.ite (fun h5 => Ev.pos (by omega) (Ev.pos (by omega) (Ev.ite (fun h6 => Ev.pos (by omega) ?_) (fun h6 => ?_)))) (fun h5 => ?_))))))
    ·have e : unfStep s a = some (s.extract ((readVar s a).2.1 + 4).toNat ((readVar s a).2.1 + 4 + (readVar s a).1).toNat,(readVar s a).2.1 + 4 + (readVar s a).1):=by
      rw [unfStep,if_neg (by simp [hb]),if_neg h4,if_pos ⟨h5,toList_inj.1 h6⟩]
     rw [e];exact ih _ _ (by omega) (by omega) (by simp only [List.length_append,List.length_singleton];omega) (by omega)
    ·have e : unfStep s a = none:=by rw [unfStep,if_neg (by simp [hb]),if_neg h4,if_neg (fun e => h6 (toList_inj.2 e.2))]
     rw [e];exact Ev.now _
    ·have e : unfStep s a = none:=by rw [unfStep,if_neg (by simp [hb]),if_neg h4,if_neg (fun e => h5 e.1)]
     rw [e];exact Ev.now _
theorem impl_Unframe_evB (s : ByteArray) : Ev (fun k => impl_Unframe.f k s) (unframe s) := by
 unfold impl_Unframe.f unframe
 refine Ev.ite (fun hc => Ev.done ?_) (fun hc => ?_)
 ·rw [if_pos (show s.size > 20000 by omega)]
 ·rw [if_neg (show ¬ s.size > 20000 by omega)];exact impl_Unframe_loopB s (by omega) _ [] 0 (by omega) (by omega) (by simp) (by omega)
def piecesOf (rb : ByteArray → Int × List S85 × Bool) : Int → List ByteArray → List S93
 | _,[] => []
 | a,c :: t => if (rb c).2.2 = true then (⟨⟨(rb c).1,(rb c).2.1⟩,c,a + ((frame c).1.size : Int) - (c.size : Int)⟩ : S93) :: piecesOf rb (a + ((frame c).1.size : Int)) t else []
theorem impl_batchesOf_loop (rb : ByteArray → Int × List S85 × Bool) (hrb : ∀ c, c.size ≤ 9000 → RB c (rb c)) (list : List ByteArray) (hl : list.length ≤ 20000) (hc : ∀ c ∈ list, c.size ≤ 9000) : ∀ (rest : List ByteArray) (n : Nat) (a : Int) (acc : List S93), list.drop n = rest → acc.length = n → 0 ≤ a → a ≤ 9009 * (n : Int) →
  To (fun k => impl_batchesOf.l0 k acc a list (list.length : Int) (n : Int)) (fun r => r.1 = acc ++ piecesOf rb a rest):=by
 intro rest
 induction rest with
 | nil =>
  intro n a acc h ha h0 h1;have:=drop_nil h;refine To.step (fun _ => rfl) ?_;simp only [impl_batchesOf.l0];exact To.neg (by omega) (To.now (by simp [piecesOf]))
 | cons x r ih =>
  intro n a acc h ha h0 h1;obtain ⟨h2,-,h3⟩:=drop_cons h;have hm:=hc x (List.mem_of_mem_drop (h ▸ List.mem_cons_self));have hf:=frame_le8 x;obtain ⟨-,q2,q3⟩:=hrb x hm;refine To.step (fun _ => rfl) ?_;simp only [impl_batchesOf.l0,rdOf_drop h,wrap64_succ (show n ≤ 9223372036854775806 by omega)];refine To.pos (by omega) (To.pos (by omega) (To.pos (by omega) (To.bind (To.ev (P:=fun z => z = rb x) q2 rfl) (fun z ez => ?_))));subst ez;rw [piecesOf];refine To.ite (fun c => ?_) (fun c => To.now (by rw [if_neg c];simp));rw [if_pos c];refine To.bind (To.ev (P:=fun z => z = frame x) (impl_Frame_ev x (by omega)) rfl) (fun z ez => ?_);subst ez;rw [wrap64_id (n:=a + ((frame x).1.size : Int)) (by omega) (by omega),wrap64_id (n:=a + ((frame x).1.size : Int) - (x.size : Int)) (by omega) (by omega)];refine To.pos (by omega) (To.mono (ih (n + 1) (a + ((frame x).1.size : Int)) _ h3 (by simp [ha]) (by omega) (by omega)) (fun z hz => ?_));rw [hz];simp
theorem impl_batchesOf_to (rb : ByteArray → Int × List S85 × Bool) (hrb : ∀ c, c.size ≤ 9000 → RB c (rb c)) (s : ByteArray) : To (fun k => impl_batchesOf.f k s) (fun r => r.1 = piecesOf rb 0 (unframe s).1) := by
 unfold impl_batchesOf.f
 obtain ⟨u1,u2⟩:=unframe_bounds s;refine To.bind (To.ev (P:=fun z => z = unframe s) (impl_Unframe_evB s) rfl) (fun z ez => ?_);subst ez;exact To.mono (impl_batchesOf_loop rb hrb _ u1 u2 _ 0 0 [] rfl rfl (by omega) (by omega)) (fun z hz => by rw [hz];simp)
theorem rdP_drop {xs : List S93} {n : Nat} {x : S93} {t : List S93} (h : xs.drop n = x :: t) : rd_T93 xs (n : Int) = x := by
 unfold rd_T93
 rw [Int.toNat_natCast];exact (drop_cons h).2.1 _
def scanIn (seg : Int) : List S93 → List S88 × List ByteArray × Int → List S88 × List ByteArray × Int
 | [],r => r
 | p :: t,r => scanIn seg t (r.1 ++ spotsAt seg (p.f2 + ((varText p.f0.f0.toNat).size : Int) + ((varText p.f0.f1.length).size : Int)) p.f0.f1,r.2.1 ++ [p.f1],mx r.2.2 p.f0.f0)
theorem scanIn_pieces (rb : ByteArray → Int × List S85 × Bool) (seg : Int) : ∀ (l : List ByteArray) (a : Int) (r : List S88 × List ByteArray × Int), scanIn seg (piecesOf rb a l) r = scanOn rb seg a l r
 | [],_,_ => rfl
 | c :: t,a,r => by
  rw [piecesOf,scanOn]
  split
  ·rw [scanIn,scanIn_pieces rb seg t]
  ·rfl
theorem pieces_mem (rb : ByteArray → Int × List S85 × Bool) (hrb : ∀ c, c.size ≤ 9000 → ((rb c).2.2 = true → batchOk (rb c).1 (rb c).2.1 = true)) : ∀ (l : List ByteArray) (a : Int), (∀ c ∈ l, c.size ≤ 9000) → 0 ≤ a → (piecesOf rb a l).length ≤ l.length ∧ ∀ p ∈ piecesOf rb a l, batchOk p.f0.f0 p.f0.f1 = true ∧ -9000 ≤ p.f2 ∧ p.f2 ≤ a + 9009 * (l.length : Int)
 | [],_,_,_ => ⟨Nat.le_refl _,fun p hp => by cases hp⟩
 | c :: t,a,h,h0 => by
  have hf:=frame_le8 c;have hc:=h c List.mem_cons_self;rw [piecesOf]
  split
  ·rename_i hk
   obtain ⟨i1,i2⟩:=pieces_mem rb hrb t (a + ((frame c).1.size : Int)) (fun y hy => h y (List.mem_cons_of_mem _ hy)) (by omega);refine ⟨by simp only [List.length_cons];omega,fun p hp => ?_⟩
   rcases List.mem_cons.1 hp with rfl|hp
   ·exact ⟨hrb c hc hk,by dsimp only;omega,by dsimp only;simp only [List.length_cons];omega⟩
   ·obtain ⟨j1,j2,j3⟩:=i2 p hp;exact ⟨j1,j2,by simp only [List.length_cons];omega⟩
  ·exact ⟨by simp,fun p hp => by cases hp⟩
theorem impl_ScanSeg_loop (seg : Int) (ps : List S93) (hl : ps.length ≤ 20000) (hp : ∀ p ∈ ps, batchOk p.f0.f0 p.f0.f1 = true ∧ -9000 ≤ p.f2 ∧ p.f2 ≤ 1000000000) : ∀ (rest : List S93) (n : Nat) (sp : List S88) (tx : List ByteArray) (stamp : Int), ps.drop n = rest → sp.length ≤ 60 * n → tx.length = n →
  Ev (fun k => impl_ScanSeg.l0 k seg sp tx stamp ps (ps.length : Int) (n : Int)) (scanIn seg rest (sp,tx,stamp)):=by
 intro rest
 induction rest with
 | nil =>
  intro n sp tx stamp h hs ht;have:=drop_nil h;refine Ev.step (fun _ => rfl) ?_;simp only [impl_ScanSeg.l0];exact Ev.neg (by omega) (Ev.now _)
 | cons x r ih =>
  intro n sp tx stamp h hs ht;obtain ⟨h2,-,h3⟩:=drop_cons h;obtain ⟨m1,m2,m3⟩:=hp x (List.mem_of_mem_drop (h ▸ List.mem_cons_self));have b2:=(batchOk_bounds m1).2.1;refine Ev.step (fun _ => rfl) ?_;simp only [impl_ScanSeg.l0,rdP_drop h,wrap64_succ (show n ≤ 9223372036854775806 by omega)];rw [scanIn];exact Ev.pos (by omega) (Ev.pos (by omega) (Ev.pos (by omega) (Ev.bind (impl_spotsOf_ev _ _ _ _ seg m1 (by omega) (by omega)) (Ev.pos (by rw [spotsAt_length];omega) (Ev.pos (by omega) (ih (n + 1) _ _ _ h3 (by rw [List.length_append,spotsAt_length];omega) (by simp [ht])))))))
theorem impl_ScanSeg_ev (rb : ByteArray → Int × List S85 × Bool) (hrb : ∀ c, c.size ≤ 9000 → RB c (rb c)) (s : ByteArray) (seg : Int) : Ev (fun k => impl_ScanSeg.f k s seg) (scanOn rb seg 0 (unframe s).1 ([], [], -1)) := by
 obtain ⟨u1,u2⟩:=unframe_bounds s;obtain ⟨i1,i2⟩:=pieces_mem rb (fun c hc => (hrb c hc).2.2) (unframe s).1 0 u2 (by omega)
 unfold impl_ScanSeg.f
 obtain ⟨z,hz,ez⟩:=impl_batchesOf_to rb hrb s;refine Ev.bind hz ?_;rw [ez,← scanIn_pieces rb];exact impl_ScanSeg_loop seg _ (by omega) (fun p hp => by have:=i2 p hp;exact ⟨this.1,this.2.1,by omega⟩) _ 0 [] [] (-1) rfl (by simp) rfl
theorem laws_eqStringS_loop (xs : List ByteArray) (hx : xs.length ≤ 9223372036854775806) : ∀ (rest : List ByteArray) (n : Nat), xs.drop n = rest → Ev (fun k => laws_eqStringS.l0 k xs xs (n : Int)) true := by
 intro rest
 induction rest with
 | nil =>
  intro n h;have:=drop_nil h;refine Ev.step (fun _ => rfl) ?_;simp only [laws_eqStringS.l0];exact Ev.neg (by omega) (Ev.now _)
 | cons x t ih =>
  intro n h;obtain ⟨h1,-,h3⟩:=drop_cons h;refine Ev.step (fun _ => rfl) ?_;simp only [laws_eqStringS.l0,wrap64_succ (show n ≤ 9223372036854775806 by omega)];exact Ev.pos (by omega) (Ev.pos (by omega) (Ev.pos (by omega) (Ev.pos trivial (ih (n + 1) h3))))
theorem laws_eqStringS_refl (xs : List ByteArray) (hx : xs.length ≤ 9223372036854775806) : Ev (fun k => laws_eqStringS.f k xs xs) true :=
 Ev.pos rfl (laws_eqStringS_loop xs hx xs 0 rfl)
def markedStr : List ByteArray → Int → List ByteArray
 | [],_ => []
 | _ :: t,m => markTextOf m :: markedStr t (m + 1)
theorem laws_markStringS_loop : ∀ (rest done : List ByteArray) (n : Nat) (m : Int), done.length = n → 0 ≤ m → m + (rest.length : Int) ≤ 4611686018427387904 → n + rest.length ≤ 1152921504606846976 →
  Ev (fun k => laws_markStringS.l0 k (done ++ rest) m (n : Int)) (m + (rest.length : Int),done ++ markedStr rest m):=by
 intro rest
 induction rest with
 | nil =>
  intro done n m hd h0 hm hn;refine Ev.step (fun _ => rfl) ?_;simp only [laws_markStringS.l0];exact Ev.neg (by simp;omega) (Ev.done (by simp [markedStr]))
 | cons x t ih =>
  intro done n m hd h0 hm hn;rw [List.length_cons] at hm hn;refine Ev.step (fun _ => rfl) ?_;simp only [laws_markStringS.l0,wrap64_succ (show n ≤ 9223372036854775806 by omega),Int.toNat_natCast,set_at hd];rw [wrap64_id (n:=m + 1) (by omega) (by omega)];refine Ev.pos (by simp;omega) (Ev.bind (laws_markText_ev m (by omega)) (Ev.pos (by omega) ?_));have:=ih (done ++ [markTextOf m]) (n + 1) (m + 1) (by simp [hd]) (by omega) (by omega) (by omega);rw [List.append_assoc] at this;refine Ev.eq this ?_;rw [markedStr,List.append_assoc,List.length_cons];exact Prod.ext (by dsimp only;omega) rfl
theorem laws_markStringS_ev (l : List ByteArray) (m : Int) (h0 : 0 ≤ m) (hm : m + (l.length : Int) ≤ 4611686018427387904) (hl : l.length ≤ 1152921504606846976) : Ev (fun k => laws_markStringS.f k l m) (m + (l.length : Int), markedStr l m) :=
 laws_markStringS_loop l [] 0 m rfl h0 hm (by omega)
theorem laws_heldStringS_loop (ys : List ByteArray) : ∀ (rest : List ByteArray) (n : Nat) (m : Int), ys.drop n = markedStr rest m → 0 ≤ m → m + (rest.length : Int) ≤ 4611686018427387904 → n + rest.length ≤ 1152921504606846976 →
  Ev (fun k => laws_heldStringS.l0 k ys m (n : Int)) (m + (rest.length : Int)):=by
 intro rest
 induction rest with
 | nil =>
  intro n m hd h0 hm hn;have:=drop_nil hd;refine Ev.step (fun _ => rfl) ?_;simp only [laws_heldStringS.l0];exact Ev.neg (by omega) (Ev.done (by simp))
 | cons x t ih =>
  intro n m hd h0 hm hn;rw [List.length_cons] at hm hn;rw [markedStr] at hd;obtain ⟨h1,-,h3⟩:=drop_cons hd;refine Ev.step (fun _ => rfl) ?_;simp only [laws_heldStringS.l0,wrap64_succ (show n ≤ 9223372036854775806 by omega),rdOf_drop hd];rw [wrap64_id (n:=m + 1) (by omega) (by omega)];refine Ev.pos (by omega) (Ev.pos (by omega) (Ev.bind (laws_markText_ev m (by omega)) (Ev.pos rfl (Ev.eq (ih (n + 1) (m + 1) h3 (by omega) (by omega) (by omega)) ?_))));rw [List.length_cons];omega
theorem laws_heldStringS_ev (l : List ByteArray) (m : Int) (h0 : 0 ≤ m) (hm : m + (l.length : Int) ≤ 4611686018427387904) (hl : l.length ≤ 1152921504606846976) : Ev (fun k => laws_heldStringS.f k (markedStr l m) m) (m + (l.length : Int)) :=
 laws_heldStringS_loop _ l 0 m rfl h0 hm (by omega)
theorem FnExactScanSeg_q (s : ByteArray) (seg : Int) (_ : s.size ≤ 140737488351232) (_ : (Lit.int .i64 seg).wf = true) : ∃ k, laws_FnExactScanSeg.f k s seg = some true := by
 apply Ev.rounds
 unfold laws_FnExactScanSeg.f
 refine Ev.ite (fun _ => Ev.now _) (fun hc => ?_)
 obtain ⟨rb,hrb⟩:=Classical.axiomOfChoice (r:=fun (c : ByteArray) (r : Int × List S85 × Bool) => c.size ≤ 9000 → RB c r) (fun c => by
  by_cases h : c.size ≤ 9000
  ·obtain ⟨r,hr⟩:=readBatch_both c (by omega);exact ⟨r,fun _ => hr⟩
  ·exact ⟨(0,[],false),fun h' => absurd h' h⟩)
 obtain ⟨u1,u2⟩:=unframe_bounds s;have hs:=spec_ScanSeg_ev rb (fun c h => ⟨(hrb c h).1,(hrb c h).2.2⟩) s seg;have hi:=impl_ScanSeg_ev rb hrb s seg;obtain ⟨n1,n2⟩:=scanOn_len rb (fun c h => (hrb c h).2.2) seg (unframe s).1 0 ([],[],-1) u2;obtain ⟨⟨sp,tx,st⟩,hz⟩ : ∃ z,z = scanOn rb seg 0 (unframe s).1 ([],[],-1):=⟨_,rfl⟩;rw [← hz] at hs hi n1 n2;simp only [List.length_nil,Nat.zero_add] at n1 n2;have eqr:=laws_eqSpotS_refl sp (by omega);have eqt:=laws_eqStringS_refl tx (by omega);have hm:=laws_markSpotS_ev sp 1 (by omega) (by omega) (by omega);have hh:=laws_heldSpotS_ev sp 1 (by omega) (by omega) (by omega);have gm:=laws_markStringS_ev tx (1 + 4 * (sp.length : Int)) (by omega) (by omega) (by omega);have gh:=laws_heldStringS_ev tx (1 + 4 * (sp.length : Int)) (by omega) (by omega) (by omega);refine Ev.bind hs (Ev.bind hi (Ev.bind eqr (Ev.pos rfl (Ev.bind eqt (Ev.pos rfl ?_)))));refine Ev.step (fun _ => rfl) ?_;simp only [laws_FnExactScanSeg.j0];refine Ev.neg (by simp) (Ev.bind hm (Ev.bind gm (Ev.bind hh (Ev.neg (by omega) (Ev.bind gh (Ev.neg (by omega) (Ev.pos rfl (Ev.bind hi (Ev.bind eqr (Ev.pos rfl (Ev.bind eqt (Ev.pos rfl ?_))))))))))));refine Ev.step (fun _ => rfl) ?_;simp only [laws_FnExactScanSeg.j1];exact Ev.neg (by simp) (Ev.bind hh (Ev.neg (by omega) (Ev.bind gh (Ev.neg (by omega) (Ev.pos rfl (Ev.now _))))))
end Go.Proofs.Ytbcgnncbiblibaa.Pure
