/- The law FnExactReadHint answers true: the program's ReadHint returns what the reference's returns, in memory of its own. For all arguments; no further condition. -/
import Derived.Test.YtgpafelepkhdoaaPFnExactReadHintx13
import Derived.Test.YtgpafelepkhdoaaVFnExactReadHintBase
namespace Go.Proofs.Ytgpafelepkhdoaa.Pure
open Go.RowKit Go.Proofs.Ytgpafelepkhdoaa.PFnExactReadHint Go.Proofs.YtgpafelepkhdoaaW.PrintWords Go.Proofs.YtgpafelepkhdoaaW.PrintLast Go.Proofs.Ytgpafelepkhdoaa.Base
set_option linter.unusedVariables false
theorem laws_markText_loop : ∀ (n : Nat) (acc : ByteArray), acc.size + n ≤ 4611686018427387904 → Ev (fun k => laws_markText.l0 k (n : Int) acc) (markTextL n acc) := by
 intro n
 induction n using Nat.strongRecOn with
 | ind n ih =>
  intro acc h;refine Ev.step (fun _ => rfl) ?_;simp only [laws_markText.l0,tdiv10 n (by omega),tmod10 n,Option.bind_some,strOfNums_size,List.length_singleton];rw [markTextL];refine Ev.ite (fun hc => ?_) (fun hc => ?_)
  ·rw [if_pos (show n > 0 by omega)];exact Ev.pos (by omega) (ih (n / 10) (by omega) _ (by rw [size_append,strOfNums_size,List.length_singleton];omega))
  ·rw [if_neg (show ¬ n > 0 by omega)];exact Ev.pos (by omega) (Ev.now _)
theorem laws_markText_ev (m : Int) (hm : m ≤ 4611686018427387904) : Ev (fun k => laws_markText.f k m) (markTextOf m) := by
 unfold laws_markText.f markTextOf
 by_cases hc : m ≤ 0
 ·rw [if_pos hc];exact Ev.pos hc (Ev.now _)
 ·rw [if_neg hc];obtain ⟨n,rfl⟩:=Int.eq_ofNat_of_zero_le (show 0 ≤ m by omega);exact Ev.neg hc (laws_markText_loop n _ (by show 0 + n ≤ _;omega))
theorem rdT127_drop {xs : List S127} {n : Nat} {x : S127} {t : List S127} (h : xs.drop n = x :: t) : rd_T127 xs (n : Int) = x := by
 unfold rd_T127
 rw [Int.toNat_natCast];exact (drop_cons h).2.1 _
theorem rdT127_at {a : List S127} {n : Nat} (h : a.length = n) (v : S127) (t : List S127) : rd_T127 (a ++ v :: t) (n : Int) = v := by
 unfold rd_T127
 rw [Int.toNat_natCast];exact getD_at h v t _
theorem laws_eqSpot_refl (x0 : ByteArray) (x1 : Int) (x2 : Int) (x3 : Int) : laws_eqSpot.f x0 x1 x2 x3 x0 x1 x2 x3 = some true := by simp [laws_eqSpot.f]
theorem laws_eqSpotS_loop (xs : List S127) (hx : xs.length ≤ 9223372036854775806) : ∀ (rest : List S127) (n : Nat), xs.drop n = rest → Ev (fun k => laws_eqSpotS.l0 k xs xs (n : Int)) true := by
 intro rest
 induction rest with
 | nil =>
  intro n h;have:=drop_nil h;refine Ev.step (fun _ => rfl) ?_;simp only [laws_eqSpotS.l0];exact Ev.neg (by omega) (Ev.now _)
 | cons x t ih =>
  intro n h;obtain ⟨h1,-,h3⟩:=drop_cons h;refine Ev.step (fun _ => rfl) ?_;simp only [laws_eqSpotS.l0,wrap64_succ (show n ≤ 9223372036854775806 by omega)];exact Ev.pos (by omega) (Ev.pos (by omega) (Ev.pos (by omega) (Ev.call (laws_eqSpot_refl _ _ _ _) (Ev.pos rfl (ih (n + 1) h3)))))
theorem laws_eqSpotS_refl (xs : List S127) (hx : xs.length ≤ 9223372036854775806) : Ev (fun k => laws_eqSpotS.f k xs xs) true :=
 Ev.pos rfl (laws_eqSpotS_loop xs hx xs 0 rfl)
def mkSpot (m : Int) : S127 := ⟨markTextOf (m), m + 1, m + 1 + 1, m + 1 + 1 + 1⟩
def markedSpot : List S127 → Int → List S127
 | [],_ => []
 | _ :: t,m => mkSpot m :: markedSpot t (m + 1 + 1 + 1 + 1)
theorem markedSpot_length : ∀ (l : List S127) (m : Int), (markedSpot l m).length = l.length
 | [],_ => rfl
 | x :: t,m => by rw [markedSpot,List.length_cons,List.length_cons,markedSpot_length t]
theorem laws_markSpotS_loop : ∀ (rest done : List S127) (n : Nat) (m : Int), done.length = n → 0 ≤ m → m + 4 * (rest.length : Int) ≤ 4611686018427387904 → n + rest.length ≤ 1152921504606846976 →
  Ev (fun k => laws_markSpotS.l0 k (done ++ rest) m (n : Int)) (m + 4 * (rest.length : Int),done ++ markedSpot rest m):=by
 intro rest
 induction rest with
 | nil =>
  intro done n m hd h0 hm hb;refine Ev.step (fun _ => rfl) ?_;simp only [laws_markSpotS.l0];exact Ev.neg (by rw [List.append_nil];omega) (Ev.done (by simp [markedSpot]))
 | cons x t ih =>
  intro done n m hd h0 hm hb
  have hn : n ≤ 9223372036854775806:=by rw [List.length_cons] at hb;omega
  have hm' : m + 4 ≤ 4611686018427387904:=by rw [List.length_cons] at hm;omega
  have w1 : wrap64 (m + 1) = m + 1:=wrap64_id (by omega) (by omega);have w2 : wrap64 (m + 1 + 1) = m + 1 + 1:=wrap64_id (by omega) (by omega);have w3 : wrap64 (m + 1 + 1 + 1) = m + 1 + 1 + 1:=wrap64_id (by omega) (by omega);have w4 : wrap64 (m + 1 + 1 + 1 + 1) = m + 1 + 1 + 1 + 1:=wrap64_id (by omega) (by omega);have ih:=ih (done ++ [mkSpot m]) (n + 1) (m + 1 + 1 + 1 + 1) (by simp [hd]) (by omega) (by rw [List.length_cons] at hm;omega) (by rw [List.length_cons] at hb;omega);refine Ev.step (fun _ => rfl) ?_;simp only [laws_markSpotS.l0,wrap64_succ hn,Int.toNat_natCast,set_at hd,rdT127_at hd,Option.bind_some,w1,w2,w3,w4];refine Ev.pos (by rw [List.length_append,List.length_cons];omega) (Ev.bind (laws_markText_ev (m) (by omega)) (Ev.pos (by omega) (?_)))
  try simp only [Option.bind_some,set_at hd,rdT127_at hd]
  refine Ev.eq (Ev.congr (fun k => ?_) ih) ?_
  ·simp only [List.append_assoc,List.cons_append,List.nil_append];rfl
  ·rw [markedSpot,List.append_assoc,List.length_cons];refine Prod.ext ?_ rfl;show (m + 1 + 1 + 1 + 1) + 4 * (t.length : Int) = m + 4 * ((t.length + 1 : Nat) : Int)
   omega
theorem laws_markSpotS_ev (l : List S127) (m : Int) (h0 : 0 ≤ m) (hm : m + 4 * (l.length : Int) ≤ 4611686018427387904) (hl : l.length ≤ 1152921504606846976) : Ev (fun k => laws_markSpotS.f k l m) (m + 4 * (l.length : Int), markedSpot l m) :=
 laws_markSpotS_loop l [] 0 m rfl h0 hm (by omega)
theorem laws_heldSpotS_loop (xs : List S127) (hx : xs.length ≤ 1152921504606846976) : ∀ (rest : List S127) (n : Nat) (m : Int), xs.drop n = markedSpot rest m → 0 ≤ m → m + 4 * (rest.length : Int) ≤ 4611686018427387904 →
  Ev (fun k => laws_heldSpotS.l0 k xs m (n : Int)) (m + 4 * (rest.length : Int)):=by
 intro rest
 induction rest with
 | nil =>
  intro n m h h0 hm;have:=drop_nil h;refine Ev.step (fun _ => rfl) ?_;simp only [laws_heldSpotS.l0];exact Ev.neg (by omega) (Ev.done (by simp))
 | cons x t ih =>
  intro n m h h0 hm;rw [markedSpot] at h;obtain ⟨h1,-,h3⟩:=drop_cons h
  have hm' : m + 4 ≤ 4611686018427387904:=by rw [List.length_cons] at hm;omega
  have w1 : wrap64 (m + 1) = m + 1:=wrap64_id (by omega) (by omega);have w2 : wrap64 (m + 1 + 1) = m + 1 + 1:=wrap64_id (by omega) (by omega);have w3 : wrap64 (m + 1 + 1 + 1) = m + 1 + 1 + 1:=wrap64_id (by omega) (by omega);have w4 : wrap64 (m + 1 + 1 + 1 + 1) = m + 1 + 1 + 1 + 1:=wrap64_id (by omega) (by omega);have ih:=ih (n + 1) (m + 1 + 1 + 1 + 1) h3 (by omega) (by rw [List.length_cons] at hm;omega);refine Ev.step (fun _ => rfl) ?_;simp only [laws_heldSpotS.l0,wrap64_succ (show n ≤ 9223372036854775806 by omega),rdT127_drop h,w1,w2,w3,w4];refine Ev.pos (by omega) (Ev.pos (by omega) (Ev.bind (laws_markText_ev (m) (by omega)) (Ev.pos rfl (Ev.pos rfl (Ev.pos rfl (Ev.pos rfl (?_)))))));refine Ev.eq ih ?_;rw [List.length_cons];show (m + 1 + 1 + 1 + 1) + 4 * (t.length : Int) = m + 4 * ((t.length + 1 : Nat) : Int)
  omega
theorem laws_heldSpotS_ev (l : List S127) (m : Int) (h0 : 0 ≤ m) (hm : m + 4 * (l.length : Int) ≤ 4611686018427387904) (hl : l.length ≤ 1152921504606846976) : Ev (fun k => laws_heldSpotS.f k (markedSpot l m) m) (m + 4 * (l.length : Int)) :=
 laws_heldSpotS_loop _ (by rw [markedSpot_length];omega) l 0 m rfl h0 hm
theorem spec_l01In_eq (a b c : Int) : spec_l01In.f a b c = some (inR a b c) := by
 unfold spec_l01In.f inR
 by_cases h : b ≤ a
 ·rw [if_pos h];simp [h]
 ·rw [if_neg h];simp [h]
theorem impl_within_eq (a b c : Int) : impl_within.f a b c = some (inR a b c) := by
 unfold impl_within.f inR
 by_cases h : b ≤ a
 ·rw [if_pos h];simp [h]
 ·rw [if_neg h];simp [h]
theorem spec_l01Var_loop : ∀ (n : Nat) (acc : List Int), acc.length + n < 140737488355328 →
  Ev (fun k => spec_l01Var.l0 k (n : Int) acc) (strOfNums (acc ++ varL n)):=by
 intro n
 induction n using Nat.strongRecOn with
 | ind n ih =>
  intro acc h;refine Ev.step (fun _ => rfl) ?_;simp only [spec_l01Var.l0,tdiv128 n (by omega),tmod128 n];refine Ev.ite (fun hc => ?_) (fun hc => ?_)
  ·rw [varL_big (by omega)];exact Ev.pos (by omega) (Ev.eq (ih (n / 128) (by omega) _ (by simp;omega)) (by simp))
  ·rw [varL_small (by omega)];exact Ev.pos (by omega) (Ev.done (by rw [Int.emod_eq_of_lt (by omega) (by omega)]))
theorem spec_l01Var_nat (n : Nat) (h : n ≤ 34359738367) : Ev (fun k => spec_l01Var.f k (n : Int)) (varText n) := spec_l01Var_loop n [] (by simp; omega)
theorem spec_l01Var_ev (n : Int) (h0 : 0 ≤ n) (h : n ≤ 34359738367) : Ev (fun k => spec_l01Var.f k n) (varText n.toNat) := by
 obtain ⟨m,rfl⟩:=Int.eq_ofNat_of_zero_le h0;exact spec_l01Var_nat m (by omega)
theorem impl_VarText_loop : ∀ (n : Nat) (acc : List Int), acc.length + n < 140737488355328 →
  Ev (fun k => impl_VarText.l0 k (n : Int) acc) (strOfNums (acc ++ varL n),true):=by
 intro n
 induction n using Nat.strongRecOn with
 | ind n ih =>
  intro acc h;refine Ev.step (fun _ => rfl) ?_;simp only [impl_VarText.l0,tdiv128 n (by omega),tmod128 n];refine Ev.ite (fun hc => ?_) (fun hc => ?_)
  ·rw [varL_big (by omega)];exact Ev.pos (by omega) (Ev.eq (ih (n / 128) (by omega) _ (by simp;omega)) (by simp))
  ·rw [varL_small (by omega)];exact Ev.pos (by omega) (Ev.done (by rw [Int.emod_eq_of_lt (by omega) (by omega)]))
theorem impl_VarText_ev (n : Int) : Ev (fun k => impl_VarText.f k n) (varTextOf n) := by
 unfold impl_VarText.f varTextOf
 refine Ev.call (impl_within_eq _ _ _) ?_
 cases hb : inR n 0 1000000000
 ·exact Ev.neg (by simp) (Ev.done (by simp))
 ·have:=inR_true.1 hb;obtain ⟨m,rfl⟩:=Int.eq_ofNat_of_zero_le this.1;exact Ev.pos rfl (Ev.eq (impl_VarText_loop m [] (by simp;omega)) (by simp [varText]))
theorem impl_VarText_nat (n : Nat) (h : n ≤ 1000000000) : Ev (fun k => impl_VarText.f k (n : Int)) (varText n, true) :=
 Ev.eq (impl_VarText_ev (n : Int)) (by rw [varTextOf,if_pos (inR_true.2 (by omega))];rfl)
theorem spec_l02Four_eq (x : Int) : spec_l02Four.f x = some (four x) := rfl
theorem spec_SumMore_bits (s : ByteArray) (i : Nat) (hi : i ≤ 9223372036854775806) (r : Int) : ∀ (d : Nat) (x : Int) (j : Nat), j + d = 8 →
  Ev (fun k => spec_SumMore.l0 k (sumBits d x) s ((i + 1 : Nat) : Int)) r → Ev (fun k => spec_SumMore.l1 k x s (i : Int) (j : Int)) r:=by
 intro d
 induction d with
 | zero =>
  intro x j hj h;refine Ev.step (fun _ => rfl) ?_;simp only [spec_SumMore.l1,wrap64_succ hi];exact Ev.neg (by omega) h
 | succ d ih =>
  intro x j hj h;refine Ev.step (fun _ => rfl) ?_;simp only [spec_SumMore.l1,wrap64_succ (show j ≤ 9223372036854775806 by omega)];refine Ev.pos (by omega) (Ev.ite (fun hc => ih _ (j + 1) (by omega) ?_) (fun hc => ih _ (j + 1) (by omega) ?_))
  ·rw [sumBits,sumBit,if_pos hc] at h;exact h
  ·rw [sumBits,sumBit,if_neg hc] at h;exact h
theorem spec_SumMore_loop (s : ByteArray) (hs : s.size ≤ 9223372036854775806) : ∀ (rest : List Int) (n : Nat) (x : Int), (bytesOf s).drop n = rest →
  Ev (fun k => spec_SumMore.l0 k x s (n : Int)) (sumMore x rest):=by
 intro rest
 induction rest with
 | nil =>
  intro n x h;have:=bytesOf_drop_nil h;refine Ev.step (fun _ => rfl) ?_;simp only [spec_SumMore.l0];exact Ev.neg (by omega) (Ev.done rfl)
 | cons b t ih =>
  intro n x h;obtain ⟨h1,h2,h3,h4,h5⟩:=bytesOf_drop_lt h;refine Ev.step (fun _ => rfl) ?_;simp only [spec_SumMore.l0,h2];exact Ev.pos (by omega) (Ev.pos (by omega) (spec_SumMore_bits s n (by omega) _ 8 _ 0 rfl (ih (n + 1) _ h3)))
theorem spec_SumMore_ev (x : Int) (s : ByteArray) (hs : s.size ≤ 9223372036854775806) : Ev (fun k => spec_SumMore.f k x s) (sumMore x (bytesOf s)) := spec_SumMore_loop s hs _ 0 x rfl
theorem spec_SumOf_ev (s : ByteArray) (hs : s.size ≤ 9223372036854775806) : Ev (fun k => spec_SumOf.f k s) (sumOf s) := Ev.bind (spec_SumMore_ev _ s hs) (Ev.now _)
theorem impl_SumMore_bits (s : ByteArray) (i : Nat) (hi : i ≤ 9223372036854775806) (r : Int) : ∀ (d : Nat) (x : Int) (j : Nat), j + d = 8 →
  Ev (fun k => impl_SumMore.l0 k (sumBits d x) s ((i + 1 : Nat) : Int)) r → Ev (fun k => impl_SumMore.l1 k x s (i : Int) (j : Int)) r:=by
 intro d
 induction d with
 | zero =>
  intro x j hj h;refine Ev.step (fun _ => rfl) ?_;simp only [impl_SumMore.l1,wrap64_succ hi];exact Ev.neg (by omega) h
 | succ d ih =>
  intro x j hj h;refine Ev.step (fun _ => rfl) ?_;simp only [impl_SumMore.l1,wrap64_succ (show j ≤ 9223372036854775806 by omega)];refine Ev.pos (by omega) (Ev.ite (fun hc => ih _ (j + 1) (by omega) ?_) (fun hc => ih _ (j + 1) (by omega) ?_))
  ·rw [sumBits,sumBit,if_pos hc] at h;exact h
  ·rw [sumBits,sumBit,if_neg hc] at h;exact h
theorem impl_SumMore_loop (s : ByteArray) (hs : s.size ≤ 9223372036854775806) : ∀ (rest : List Int) (n : Nat) (x : Int), (bytesOf s).drop n = rest →
  Ev (fun k => impl_SumMore.l0 k x s (n : Int)) (sumMore x rest):=by
 intro rest
 induction rest with
 | nil =>
  intro n x h;have:=bytesOf_drop_nil h;refine Ev.step (fun _ => rfl) ?_;simp only [impl_SumMore.l0];exact Ev.neg (by omega) (Ev.done rfl)
 | cons b t ih =>
  intro n x h;obtain ⟨h1,h2,h3,h4,h5⟩:=bytesOf_drop_lt h;refine Ev.step (fun _ => rfl) ?_;simp only [impl_SumMore.l0,h2];exact Ev.pos (by omega) (Ev.pos (by omega) (impl_SumMore_bits s n (by omega) _ 8 _ 0 rfl (ih (n + 1) _ h3)))
theorem impl_SumMore_ev (x : Int) (s : ByteArray) (hs : s.size ≤ 9223372036854775806) : Ev (fun k => impl_SumMore.f k x s) (sumMore x (bytesOf s)) := impl_SumMore_loop s hs _ 0 x rfl
theorem impl_SumOf_ev (s : ByteArray) (hs : s.size ≤ 9223372036854775806) : Ev (fun k => impl_SumOf.f k s) (sumOf s) := Ev.bind (impl_SumMore_ev _ s hs) (Ev.now _)
theorem spec_l05Short_ev (s : ByteArray) (hs : s.size ≤ 1073741824) : Ev (fun k => spec_l05Short.f k s) (shortText s) := by
 have h:=varText_size (show s.size ≤ 34359738367 by omega);exact Ev.bind (spec_l01Var_nat _ (by omega)) (Ev.pos (by omega) (Ev.now _))
theorem spec_ReadVar_loop (s : ByteArray) (a : Nat) (hs : s.size ≤ 1152921504606846976) (ha : a ≤ s.size) : ∀ (k : Nat) (rest done : List Int) (i : Nat), i + k = 5 → done.length = i → (bytesOf s).drop a = done ++ rest →
  Ev (fun K => spec_ReadVar.l0 K s (a : Int) (val done : Int) ((128 ^ i : Nat) : Int) ((a + i : Nat) : Int))
   (match varSeg k rest with|none => (0,0,false)|some bs => if val (done ++ bs) ≤ 1000000000 ∧ varL (val (done ++ bs)) = done ++ bs then ((val (done ++ bs) : Int),((a + (done ++ bs).length : Nat) : Int),true) else (0,0,false)):=by
 intro k;have hz:=bytesOf_length s
 have no : ∀ (x7 x8 x9 : Int) r,r = (0,0,false) → Ev (fun K => spec_ReadVar.j1 K s (a : Int) x7 x8 x9 false) r:=by
  rintro x7 x8 x9 r rfl;refine Ev.step (fun _ => rfl) ?_;simp only [spec_ReadVar.j1];exact Ev.neg (by simp) (Ev.now _)
 induction k with
 | zero =>
  intro rest done i hi hd hr;refine Ev.step (fun _ => rfl) ?_;simp only [spec_ReadVar.l0,wrap64_id (show -9223372036854775808 ≤ (a : Int) + 5 by omega) (show (a : Int) + 5 ≤ 9223372036854775807 by omega)];refine Ev.ite (fun _ => ?_) (fun _ => no _ _ _ _ rfl);rw [decide_eq_false (by omega)];exact no _ _ _ _ rfl
 | succ k ih =>
  intro rest done i hi hd hr
  have hl : done.length + rest.length = s.size - a:=by rw [← List.length_append,← hr,List.length_drop,hz]
  cases rest with
  | nil =>
   refine Ev.step (fun _ => rfl) ?_;simp only [spec_ReadVar.l0];rw [List.length_nil] at hl;exact Ev.neg (by omega) (no _ _ _ _ rfl)
  | cons b t =>
   have hbt : bt s ((a + i : Nat) : Int) = b:=by
    rw [← rd_bytesOf,rd_nat]
    have e : (bytesOf s).drop (a + i) = b :: t:=by rw [← List.drop_drop,hr,List.drop_append_of_le_length (by omega),← hd,List.drop_length,List.nil_append]
    exact (drop_cons e).2.1 0
   have hb:=bytesOf_range s b (by
    have : b ∈ (bytesOf s).drop a:=by rw [hr];simp
    exact List.mem_of_mem_drop this)
   rw [List.length_cons] at hl;have hsc:=scale_bound (show i ≤ 5 by omega);have hvd:=val_lt done;rw [hd] at hvd;have e1 : Int.tmod (wrap64 b) 128 = b % 128:=byte_mod hb.1 hb.2;have hpos : 0 < 128 ^ i:=Nat.pow_pos (by omega)
   have hmul : (b % 128) * ((128 ^ i : Nat) : Int) = (((b % 128).toNat * 128 ^ i : Nat) : Int):=by
    rw [Int.natCast_mul,Int.toNat_of_nonneg (by omega)]
   have hmb : (b % 128).toNat * 128 ^ i ≤ 127 * 128 ^ i:=Nat.mul_le_mul_right _ (by omega)
   have e2 : wrap64 ((val done : Int) + wrap64 (Int.tmod (wrap64 b) 128 * ((128 ^ i : Nat) : Int))) = (val (done ++ [b]) : Int):=by
    rw [e1,hmul,wrap64_id (n:=(((b % 128).toNat * 128 ^ i : Nat) : Int)) (by omega) (by omega),wrap64_id (by omega) (by omega),val_append,hd];rw [show val [b] = (b % 128).toNat by simp [val],Nat.mul_comm (128 ^ i)]
    omega
   have hval : val (done ++ [b]) < 128 ^ (i + 1):=by
    have:=val_lt (done ++ [b])
    rwa [List.length_append,hd] at this
   have hsc':=scale_bound (show i + 1 ≤ 5 by omega);refine Ev.step (fun _ => rfl) ?_;simp only [spec_ReadVar.l0,wrap64_id (show -9223372036854775808 ≤ (a : Int) + 5 by omega) (show (a : Int) + 5 ≤ 9223372036854775807 by omega)];rw [decide_eq_true (show ((a + i : Nat) : Int) < (a : Int) + 5 by omega)];refine Ev.pos (by omega) (Ev.step (fun _ => rfl) ?_);simp only [spec_ReadVar.j1,hbt,e2,wrap64_succ (show a + i ≤ 9223372036854775806 by omega)];refine Ev.pos trivial (Ev.pos (by omega) (Ev.pos (by omega) (Ev.ite (fun hlt => ?_) (fun hge => ?_))))
   ·rw [varSeg,if_pos hlt];simp only [];refine Ev.ite (fun hbig => Ev.done ?_) (fun hsmall => ?_)
    ·rw [if_neg (by omega)]
    ·have hex : (s.extract (a : Int).toNat ((a + i + 1 : Nat) : Int).toNat).toList = (strOfNums (done ++ [b])).toList:=by
      rw [toList_iff,bytesOf_extract,Int.toNat_natCast,Int.toNat_natCast,List.drop_take,hr,bytesOf_strOfNums _ (by
       intro x hx;refine bytesOf_range s x ?_
       have : x ∈ (bytesOf s).drop a:=by rw [hr];rcases List.mem_append.1 hx with h|h <;> simp_all
       exact List.mem_of_mem_drop this)]
      rw [show a + i + 1 - a = done.length + 1 by omega];rw [List.take_append,List.take_of_length_le (by omega)]
      simp
     refine Ev.bind (spec_l01Var_nat _ (by omega)) (Ev.pos (by omega) (Ev.pos (by omega) (Ev.pos (by omega) ?_)));rw [hex]
     have hiff : (varText (val (done ++ [b]))).toList = (strOfNums (done ++ [b])).toList ↔ varL (val (done ++ [b])) = done ++ [b]:=by
      rw [toList_iff,bytesOf_varText,bytesOf_strOfNums _ (by
       intro x hx;refine bytesOf_range s x ?_
       have : x ∈ (bytesOf s).drop a:=by rw [hr];rcases List.mem_append.1 hx with h|h <;> simp_all
       exact List.mem_of_mem_drop this)]
     refine Ev.ite (fun hc => Ev.done ?_) (fun hc => Ev.done ?_)
     ·rw [if_pos ⟨by omega,hiff.1 hc⟩,List.length_append,hd];rfl
     ·rw [if_neg (fun h => hc (hiff.2 h.2))]
   ·have ih:=ih t (done ++ [b]) (i + 1) (by omega) (by simp [hd]) (by rw [hr];simp);rw [varSeg,if_neg hge]
    have e3 : wrap64 (((128 ^ i : Nat) : Int) * 128) = ((128 ^ (i + 1) : Nat) : Int):=by
     rw [wrap64_id (by omega) (by omega),Nat.pow_succ,Int.natCast_mul];rfl
    rw [e3];refine Ev.eq ih ?_
    cases varSeg k t with
    | none => rfl
    | some bs => simp only [Option.map_some,List.append_assoc,List.cons_append,List.nil_append]
theorem spec_ReadVar_ev (s : ByteArray) (a : Int) (hs : s.size ≤ 1152921504606846976) : Ev (fun k => spec_ReadVar.f k s a) (readVar s a) := by
 unfold spec_ReadVar.f readVar
 refine Ev.call (spec_l01In_eq _ _ _) ?_
 cases hb : inR a 0 s.size
 ·exact Ev.neg (by simp) (Ev.done (by simp))
 ·have hr:=inR_true.1 hb;obtain ⟨n,rfl⟩:=Int.eq_ofNat_of_zero_le hr.1;refine Ev.pos rfl (Ev.eq (spec_ReadVar_loop s n hs (by omega) 5 ((bytesOf s).drop n) [] 0 rfl rfl rfl) ?_);rw [if_pos rfl,Int.toNat_natCast,readVarL]
  cases varSeg 5 ((bytesOf s).drop n) with
  | none => rfl
  | some bs =>
   simp only [List.nil_append]
   by_cases hc : val bs ≤ 1000000000 ∧ varL (val bs) = bs
   ·rw [if_pos hc,if_pos hc];simp
   ·rw [if_neg hc,if_neg hc]
theorem impl_ReadVar_loop (s : ByteArray) (a : Nat) (hs : s.size ≤ 1152921504606846976) (ha : a ≤ s.size) : ∀ (k : Nat) (rest done : List Int) (i : Nat), i + k = 5 → done.length = i → (bytesOf s).drop a = done ++ rest → (∀ bs, varSeg k rest = some bs → varSeg 5 ((bytesOf s).drop a) = some (done ++ bs)) →
  Ev (fun K => impl_ReadVar.l0 K s (a : Int) (val done : Int) (i : Int))
   (match varSeg k rest with|none => (0,0,false)|some bs => if val (done ++ bs) ≤ 1000000000 ∧ varL (val (done ++ bs)) = done ++ bs then ((val (done ++ bs) : Int),((a + (done ++ bs).length : Nat) : Int),true) else (0,0,false)):=by
 intro k;have hz:=bytesOf_length s
 have no : ∀ (x7 x8 : Int) r,r = (0,0,false) → Ev (fun K => impl_ReadVar.j1 K s (a : Int) x7 x8 false) r:=by
  rintro x7 x8 r rfl;refine Ev.step (fun _ => rfl) ?_;simp only [impl_ReadVar.j1];exact Ev.neg (by simp) (Ev.now _)
 induction k with
 | zero =>
  intro rest done i hi hd hr _;refine Ev.step (fun _ => rfl) ?_;simp only [impl_ReadVar.l0];exact Ev.neg (by omega) (no _ _ _ rfl)
 | succ k ih =>
  intro rest done i hi hd hr hseg
  have hl : done.length + rest.length = s.size - a:=by rw [← List.length_append,← hr,List.length_drop,hz]
  cases rest with
  | nil =>
   refine Ev.step (fun _ => rfl) ?_;simp only [impl_ReadVar.l0];rw [List.length_nil] at hl;refine Ev.pos (by omega) ?_;rw [wrap64_id (by omega) (by omega),decide_eq_false (by omega)];exact no _ _ _ rfl
  | cons b t =>
   have e0 : wrap64 ((a : Int) + (i : Int)) = ((a + i : Nat) : Int):=by rw [wrap64_id (by omega) (by omega)];omega
   have hbt : bt s ((a + i : Nat) : Int) = b:=by
    rw [← rd_bytesOf,rd_nat]
    have e : (bytesOf s).drop (a + i) = b :: t:=by rw [← List.drop_drop,hr,List.drop_append_of_le_length (by omega),← hd,List.drop_length,List.nil_append]
    exact (drop_cons e).2.1 0
   have hb:=bytesOf_range s b (by
    have : b ∈ (bytesOf s).drop a:=by rw [hr];simp
    exact List.mem_of_mem_drop this)
   rw [List.length_cons] at hl;have hsc:=scale_bound (show i ≤ 5 by omega);have hvd:=val_lt done;rw [hd] at hvd;have e1 : Int.tmod (wrap64 b) 128 = b % 128:=byte_mod hb.1 hb.2
   have hmul : (b % 128) * ((128 ^ i : Nat) : Int) = (((b % 128).toNat * 128 ^ i : Nat) : Int):=by
    rw [Int.natCast_mul,Int.toNat_of_nonneg (by omega)]
   have hmb : (b % 128).toNat * 128 ^ i ≤ 127 * 128 ^ i:=Nat.mul_le_mul_right _ (by omega);have hpos : 0 < 128 ^ i:=Nat.pow_pos (by omega);have e7 : wrap64 (7 * (i : Int)) = 7 * (i : Int):=wrap64_id (by omega) (by omega)
   have hshl : shl .i64 (b % 128) (7 * (i : Int)) = (b % 128) * ((128 ^ i : Nat) : Int):=by
    have hp : (2 : Int) ^ min (7 * (i : Int)).toNat (IntKind.bits .i64) = ((128 ^ i : Nat) : Int):=by
     rcases i with _|_|_|_|_|i
     ·rfl
     ·rfl
     ·rfl
     ·rfl
     ·rfl
     ·omega
    unfold shl
    rw [hp,i64_w];exact wrap64_id (by omega) (by omega)
   have e2 : wrap64 ((val done : Int) + shl .i64 (Int.tmod (wrap64 b) 128) (wrap64 (7 * (i : Int)))) = (val (done ++ [b]) : Int):=by
    rw [e1,e7,hshl,hmul,wrap64_id (by omega) (by omega),val_append,hd];rw [show val [b] = (b % 128).toNat by simp [val],Nat.mul_comm (128 ^ i)]
    omega
   clear hsc hvd hmul hmb hpos hshl e1;refine Ev.step (fun _ => rfl) ?_;simp only [impl_ReadVar.l0,e0];refine Ev.pos (by omega) ?_;rw [decide_eq_true (show ((a + i : Nat) : Int) < (s.size : Int) by omega)];refine Ev.step (fun _ => rfl) ?_;simp only [impl_ReadVar.j1,e0,hbt,e2,wrap64_succ (show i ≤ 9223372036854775806 by omega),wrap64_succ (show a + i ≤ 9223372036854775806 by omega)];rw [wrap64_id (n:=b) (by omega) (by omega)];refine Ev.pos trivial (Ev.pos (by omega) (Ev.pos (by omega) (Ev.pos (by rw [e7];omega) (Ev.ite (fun hlt => ?_) (fun hge => ?_)))))
   ·have hsg:=hseg [b] (by rw [varSeg,if_pos hlt]);have hck:=varSeg_check (fun x hx => bytesOf_range s x (List.mem_of_mem_drop hx)) hsg;rw [varSeg,if_pos hlt];simp only []
    by_cases hbig : val (done ++ [b]) ≤ 1000000000
    ·refine Ev.bind (impl_VarText_nat _ hbig) (Ev.pos rfl ?_);simp only [varText,strOfNums_size]
     have hlen : (done ++ [b]).length = i + 1:=by simp [hd]
     refine Ev.ite (fun hc => Ev.done ?_) (fun hc => Ev.done ?_)
     ·rw [if_pos ⟨hbig,hck.1 (by omega)⟩,hlen];rfl
     ·rw [if_neg (fun h => hc (by have:=hck.2 h.2;omega))]
    ·refine Ev.bind (Ev.eq (impl_VarText_ev _) (varTextOf_no (show ¬ ((val (done ++ [b]) : Int) ≤ 1000000000) by omega))) ?_;refine Ev.neg (by simp) (Ev.done ?_);rw [if_neg (fun h => hbig h.1)]
   ·have ih:=ih t (done ++ [b]) (i + 1) (by omega) (by simp [hd]) (by rw [hr];simp) (fun bs hbs => by
     have:=hseg (b :: bs) (by rw [varSeg,if_neg hge,hbs];rfl)
     rw [this];simp)
    rw [varSeg,if_neg hge];refine Ev.eq ih ?_
    cases varSeg k t with
    | none => rfl
    | some bs => simp only [Option.map_some,List.append_assoc,List.cons_append,List.nil_append]
theorem impl_ReadVar_ev (s : ByteArray) (a : Int) (hs : s.size ≤ 1152921504606846976) : Ev (fun k => impl_ReadVar.f k s a) (readVar s a) := by
 unfold impl_ReadVar.f readVar
 refine Ev.call (impl_within_eq _ _ _) ?_
 cases hb : inR a 0 s.size
 ·exact Ev.neg (by simp) (Ev.done (by simp))
 ·have hr:=inR_true.1 hb;obtain ⟨n,rfl⟩:=Int.eq_ofNat_of_zero_le hr.1;refine Ev.pos rfl (Ev.eq (impl_ReadVar_loop s n hs (by omega) 5 ((bytesOf s).drop n) [] 0 rfl rfl rfl (fun bs h => h)) ?_);rw [if_pos rfl,Int.toNat_natCast,readVarL]
  cases varSeg 5 ((bytesOf s).drop n) with
  | none => rfl
  | some bs =>
   simp only [List.nil_append]
   by_cases hc : val bs ≤ 1000000000 ∧ varL (val bs) = bs
   ·rw [if_pos hc,if_pos hc];simp
   ·rw [if_neg hc,if_neg hc]
theorem spec_l05Var_ev (s : ByteArray) (a : Int) (bad : Bool) (hs : s.size ≤ 1152921504606846976) : Ev (fun k => spec_l05Var.f k s a bad) (curNum s a bad) := by
 unfold spec_l05Var.f curNum
 refine Ev.bind (spec_ReadVar_ev s a hs) (Ev.ite (fun h => Ev.done (by rw [if_pos h])) (fun h => Ev.ite (fun h' => Ev.done ?_) (fun h' => Ev.done ?_)))
 ·rw [if_neg h,if_pos h']
 ·rw [if_neg h,if_neg h']
theorem impl_reader_num_ev (s : ByteArray) (a : Int) (bad : Bool) (hs : s.size ≤ 1152921504606846976) : Ev (fun k => impl_reader_num.f k s a bad) (curNum s a bad) := by
 unfold impl_reader_num.f curNum
 refine Ev.bind (impl_ReadVar_ev s a hs) (Ev.ite (fun h => Ev.done (by rw [if_pos h])) (fun h => Ev.ite (fun h' => Ev.done ?_) (fun h' => Ev.done ?_)))
 ·rw [if_neg h,if_pos h']
 ·rw [if_neg h,if_neg h']
theorem spec_l05Take_eq (s : ByteArray) (a n : Int) (bad : Bool) (hs : s.size ≤ 1152921504606846976) (h0 : 0 ≤ a) (h1 : a ≤ s.size) (hn : 0 ≤ n) (hn' : n ≤ 1152921504606846976) : spec_l05Take.f s a bad n = some (curTake s a bad n) := by
 unfold spec_l05Take.f curTake
 by_cases h : bad = true
 ·rw [if_pos h,if_pos h]
 ·rw [if_neg h,if_neg h,wrap64_id (n:=(s.size : Int) - a) (by omega) (by omega),wrap64_id (n:=a + n) (by omega) (by omega),show a + n - n = a by omega,wrap64_id (n:=a) (by omega) (by omega)]
  by_cases hc : n > (s.size : Int) - a
  ·rw [if_pos hc,if_pos hc]
  ·rw [if_neg hc,if_neg hc,if_pos (by omega),if_pos (by omega),if_pos (by omega)]
theorem spec_l05ReadShort_ev (s : ByteArray) (a : Int) (bad : Bool) (hs : s.size ≤ 1152921504606846976) (h0 : 0 ≤ a) (h1 : a ≤ s.size) : Ev (fun k => spec_l05ReadShort.f k s a bad) (curShort s a bad) := by
 unfold spec_l05ReadShort.f curShort
 have hp:=curNum_place (s:=s) (a:=a) (bad:=bad) h0 h1;have hn:=curNum_nonneg s a bad;refine Ev.bind (spec_l05Var_ev s a bad hs) ?_;simp only [curNum_text];exact Ev.call (spec_l05Take_eq s _ _ _ hs hp.1 hp.2 hn.1 (by omega)) (Ev.now _)
theorem impl_ReadShort_ev (s : ByteArray) (a : Int) (hs : s.size ≤ 1152921504606846976) : Ev (fun k => impl_ReadShort.f k s a) (readShort s a) := by
 unfold impl_ReadShort.f readShort
 refine Ev.bind (impl_ReadVar_ev s a hs) (Ev.ite (fun h => ?_) (fun h => Ev.done (by rw [if_neg h])));have hr:=readVar_true (s:=s) (a:=a) (n:=(readVar s a).1) (b:=(readVar s a).2.1) (by rw [← h]);rw [if_pos h,wrap64_id (n:=(s.size : Int) - (readVar s a).2.1) (by omega) (by omega)];refine Ev.ite (fun h2 => Ev.done (by rw [if_pos h2])) (fun h2 => Ev.ite (fun h3 => Ev.done (by rw [if_neg h2,if_pos h3])) (fun h3 => ?_));rw [if_neg h2,if_neg h3,wrap64_id (n:=(readVar s a).2.1 + (readVar s a).1) (by omega) (by omega)];exact Ev.pos (by omega) (Ev.pos (by omega) (Ev.pos (by omega) (Ev.now _)))
theorem impl_reader_text_ev (s : ByteArray) (a : Int) (bad : Bool) (hs : s.size ≤ 1152921504606846976) : Ev (fun k => impl_reader_text.f k s a bad) (curText s a bad) := by
 unfold impl_reader_text.f curText
 refine Ev.bind (impl_ReadShort_ev s a hs) (Ev.ite (fun h => Ev.done (by rw [if_pos h])) (fun h => Ev.ite (fun h' => Ev.done ?_) (fun h' => Ev.done ?_)))
 ·rw [if_neg h,if_pos h']
 ·rw [if_neg h,if_neg h']
theorem impl_reader_done_eq (s : ByteArray) (a : Int) (bad : Bool) : impl_reader_done.f s a bad = some (!bad && (a == (s.size : Int)), s, a, bad) := by
 unfold impl_reader_done.f
 cases bad <;> simp
theorem spec_l05Key_eq (s : ByteArray) : spec_l05Key.f s = some (inR s.size 1 10) := by
 unfold spec_l05Key.f;rw [spec_l01In_eq];rfl
theorem impl_keyOk_eq (s : ByteArray) : impl_keyOk.f s = some (inR s.size 1 10) := by
 unfold impl_keyOk.f;rw [impl_within_eq];rfl
def spotOk (x : S127) : Bool := inR x.f0.size 1 10 && (inR x.f1 0 999 && (inR x.f2 0 20000 && inR x.f3 0 40))
def keyRise : Option ByteArray → ByteArray → Bool
 | none,_ => true
 | some q,s => Op.bytesLess q.toList s.toList
def dirIn : Option ByteArray → List S127 → Bool
 | _,[] => true
 | p,x :: t => spotOk x && (keyRise p x.f0 && dirIn (some x.f0) t)
def dirOk (l : List S127) : Bool := decide (l.length ≤ 60) && dirIn none l
def keyOf (xs : List S127) : Nat → Option ByteArray
 | 0 => none
 | n + 1 => some (rd_T127 xs (n : Int)).f0
theorem dirIn_mem : ∀ {l : List S127} {p : Option ByteArray}, dirIn p l = true → ∀ x ∈ l, spotOk x = true
 | [],_,_,x,hx => by cases hx
 | y :: t,p,h,x,hx => by
  rw [dirIn,Bool.and_eq_true,Bool.and_eq_true] at h
  rcases List.mem_cons.1 hx with rfl|hx
  ·exact h.1
  ·exact dirIn_mem h.2.2 x hx
theorem spec_DirOk_loop (l : List S127) (hl : l.length ≤ 1048576) : ∀ (rest : List S127) (n : Nat), l.drop n = rest → Ev (fun k => spec_DirOk.l0 k l (n : Int)) (dirIn (keyOf l n) rest) := by
 intro rest
 induction rest with
 | nil =>
  intro n h;have:=drop_nil h;refine Ev.step (fun _ => rfl) ?_;simp only [spec_DirOk.l0];exact Ev.neg (by omega) (Ev.done (by simp [dirIn]))
 | cons x t ih =>
  intro n h;obtain ⟨h1,-,h3⟩:=drop_cons h
  have hk : keyOf l (n + 1) = some x.f0:=by rw [keyOf,rdT127_drop h]
  have ih:=ih (n + 1) h3;rw [hk] at ih
  have tail : ∀ r,r = (inR x.f1 0 999 && (inR x.f2 0 20000 && (inR x.f3 0 40 && dirIn (some x.f0) t))) → Ev (fun k => (spec_l01In.f x.f1 0 999).bind fun t1 => (if t1 = true then ((spec_l01In.f x.f2 0 20000).bind fun t2 => (if t2 = true then ((spec_l01In.f x.f3 0 40).bind fun t3 => (if t3 = true then (spec_DirOk.l0 k l ((n + 1 : Nat) : Int)) else (some false))) else (some false))) else (some false))) r:=by
   rintro r rfl;refine Ev.call (spec_l01In_eq _ _ _) ?_
   cases inR x.f1 0 999
   ·exact Ev.neg (by simp) (Ev.done (by simp))
   refine Ev.pos rfl (Ev.call (spec_l01In_eq _ _ _) ?_)
   cases inR x.f2 0 20000
   ·exact Ev.neg (by simp) (Ev.done (by simp))
   refine Ev.pos rfl (Ev.call (spec_l01In_eq _ _ _) ?_)
   cases inR x.f3 0 40
   ·exact Ev.neg (by simp) (Ev.done (by simp))
   exact Ev.pos rfl (Ev.eq ih (by simp))
  refine Ev.step (fun _ => rfl) ?_;simp only [spec_DirOk.l0,rdT127_drop h,wrap64_succ (show n ≤ 9223372036854775806 by omega)];refine Ev.pos (by omega) (Ev.pos (by omega) (Ev.call (spec_l05Key_eq _) ?_));rw [dirIn,spotOk]
  cases h0 : inR x.f0.size 1 10
  ·exact Ev.neg (by simp) (Ev.done (by simp))
  refine Ev.pos rfl ?_
  cases n with
  | zero => exact Ev.neg (by omega) (tail _ (by simp [keyOf,keyRise,Bool.and_assoc]))
  | succ m =>
   simp only [wrap64_pred (show m ≤ 9223372036854775806 by omega)];refine Ev.pos (by omega) (Ev.pos (by omega) (Ev.pos (by omega) (Ev.ite (fun hc => tail _ ?_) (fun hc => Ev.done ?_))))
   ·simp only [keyOf,keyRise,hc];simp [Bool.and_assoc]
   ·simp only [keyOf,keyRise,Bool.eq_false_iff.2 hc];simp
theorem spec_DirOk_ev (l : List S127) (hl : l.length ≤ 1048576) : Ev (fun k => spec_DirOk.f k l) (dirOk l) := by
 unfold spec_DirOk.f dirOk
 refine Ev.ite (fun hc => Ev.done ?_) (fun hc => Ev.eq (spec_DirOk_loop l hl l 0 rfl) ?_)
 ·rw [decide_eq_false (show ¬ l.length ≤ 60 by omega)];rfl
 ·rw [decide_eq_true (show l.length ≤ 60 by omega)];rfl
theorem impl_DirOk_loop (l : List S127) (hl : l.length ≤ 1048576) : ∀ (rest : List S127) (n : Nat), l.drop n = rest → Ev (fun k => impl_DirOk.l0 k l l (l.length : Int) (n : Int)) (decide (l.length ≤ 60) && dirIn (keyOf l n) rest) := by
 intro rest
 induction rest with
 | nil =>
  intro n h;have:=drop_nil h;refine Ev.step (fun _ => rfl) ?_;simp only [impl_DirOk.l0];refine Ev.neg (by omega) (Ev.done ?_);rw [dirIn,Bool.and_true];exact decide_eq_decide.2 (by omega)
 | cons x t ih =>
  intro n h;obtain ⟨h1,-,h3⟩:=drop_cons h
  have hk : keyOf l (n + 1) = some x.f0:=by rw [keyOf,rdT127_drop h]
  have ih:=ih (n + 1) h3;rw [hk] at ih;refine Ev.step (fun _ => rfl) ?_;simp only [impl_DirOk.l0,rdT127_drop h,wrap64_succ (show n ≤ 9223372036854775806 by omega)];refine Ev.pos (by omega) (Ev.pos (by omega) (Ev.pos (by omega) (Ev.call (impl_keyOk_eq _) ?_)));rw [dirIn,spotOk]
  cases h0 : inR x.f0.size 1 10
  ·exact Ev.neg (by simp) (Ev.done (by simp))
  refine Ev.pos rfl (Ev.call (impl_within_eq _ _ _) ?_)
  cases inR x.f1 0 999
  ·exact Ev.neg (by simp) (Ev.done (by simp))
  refine Ev.pos rfl (Ev.call (impl_within_eq _ _ _) ?_)
  cases inR x.f2 0 20000
  ·exact Ev.neg (by simp) (Ev.done (by simp))
  refine Ev.pos rfl (Ev.call (impl_within_eq _ _ _) ?_)
  cases inR x.f3 0 40
  ·exact Ev.neg (by simp) (Ev.done (by simp))
  refine Ev.pos rfl ?_
  cases n with
  | zero => exact Ev.neg (by omega) (Ev.eq ih (by simp [keyOf,keyRise]))
  | succ m =>
   simp only [wrap64_pred (show m ≤ 9223372036854775806 by omega)];refine Ev.pos (by omega) (Ev.pos (by omega) (Ev.pos (by omega) (Ev.ite (fun hc => Ev.eq ih ?_) (fun hc => Ev.done ?_))))
   ·simp only [keyOf,keyRise,hc];simp
   ·simp only [keyOf,keyRise,Bool.eq_false_iff.2 hc];simp
theorem impl_DirOk_ev (l : List S127) (hl : l.length ≤ 1048576) : Ev (fun k => impl_DirOk.f k l) (dirOk l) :=
 impl_DirOk_loop l hl l 0 rfl
def sealT (s : ByteArray) : ByteArray × Bool := if s.size > 20000 then (⟨#[]⟩, false) else (s ++ four (sumOf s), true)
theorem spec_Sealed_ev (s : ByteArray) (hs : s.size ≤ 1152921504606846976) : Ev (fun k => spec_Sealed.f k s) (sealT s) := by
 unfold spec_Sealed.f sealT
 have h4:=four_size (sumOf s);refine Ev.ite (fun hc => Ev.done ?_) (fun hc => Ev.bind (spec_SumOf_ev s (by omega)) (Ev.call (spec_l02Four_eq _) (Ev.pos (by omega) (Ev.done ?_))))
 ·rw [if_pos (show s.size > 20000 by omega)]
 ·rw [if_neg (show ¬ s.size > 20000 by omega)]
theorem impl_Sealed_ev (s : ByteArray) (hs : s.size ≤ 1152921504606846976) : Ev (fun k => impl_Sealed.f k s) (sealT s) := by
 unfold impl_Sealed.f sealT
 have h4:=four_size (sumOf s);refine Ev.ite (fun hc => Ev.done ?_) (fun hc => Ev.bind (impl_SumOf_ev s (by omega)) (Ev.call rfl ?_))
 ·rw [if_pos (show s.size > 20000 by omega)]
 ·rw [if_neg (show ¬ s.size > 20000 by omega)];rw [four] at h4;exact Ev.pos (by omega) (Ev.done rfl)
def hintRow (x : S127) : ByteArray := shortText x.f0 ++ varText x.f1.toNat ++ varText x.f2.toNat ++ varText x.f3.toNat
def hintRows : ByteArray → List S127 → ByteArray
 | s,[] => s
 | s,x :: t => hintRows (s ++ hintRow x) t
def hintText (l : List S127) : ByteArray × Bool := if dirOk l = true then sealT (hintRows (varText l.length) l) else (⟨#[]⟩, false)
theorem spotOk_sizes {x : S127} (h : spotOk x = true) : (1 ≤ x.f0.size ∧ x.f0.size ≤ 10) ∧ (0 ≤ x.f1 ∧ x.f1 ≤ 999) ∧ (0 ≤ x.f2 ∧ x.f2 ≤ 20000) ∧ (0 ≤ x.f3 ∧ x.f3 ≤ 40) := by
 simp only [spotOk,Bool.and_eq_true] at h;obtain ⟨h1,h2,h3,h4⟩:=h;have:=inR_true.1 h1;have:=inR_true.1 h2;have:=inR_true.1 h3;have:=inR_true.1 h4
 omega
theorem spec_HintText_loop (l : List S127) (hl : l.length ≤ 1048576) : ∀ (rest : List S127) (n : Nat) (acc : ByteArray), l.drop n = rest → (∀ x ∈ rest, spotOk x = true) → acc.size + 40 * rest.length ≤ 1000000 → Ev (fun k => spec_HintText.l0 k l acc (n : Int)) (sealT (hintRows acc rest)) := by
 intro rest
 induction rest with
 | nil =>
  intro n acc h hm hs;have:=drop_nil h;refine Ev.step (fun _ => rfl) ?_;simp only [spec_HintText.l0];exact Ev.neg (by omega) (Ev.bind (spec_Sealed_ev acc (by omega)) (Ev.now _))
 | cons x t ih =>
  intro n acc h hm hs;obtain ⟨h1,-,h3⟩:=drop_cons h;rw [List.length_cons] at hs;obtain ⟨z0,z1,z2,z3⟩:=spotOk_sizes (hm x List.mem_cons_self);have s0:=shortText_size (show x.f0.size ≤ 34359738367 by omega);have s1:=varText_size (show x.f1.toNat ≤ 34359738367 by omega);have s2:=varText_size (show x.f2.toNat ≤ 34359738367 by omega);have s3:=varText_size (show x.f3.toNat ≤ 34359738367 by omega);have ih:=ih (n + 1) (acc ++ hintRow x) h3 (fun y hy => hm y (List.mem_cons_of_mem _ hy)) (by rw [hintRow];simp only [size_append];omega);refine Ev.step (fun _ => rfl) ?_;simp only [spec_HintText.l0,rdT127_drop h,wrap64_succ (show n ≤ 9223372036854775806 by omega)];refine Ev.pos (by omega) (Ev.pos (by omega) (Ev.bind (spec_l05Short_ev x.f0 (by omega)) (Ev.pos (by omega) (Ev.bind (spec_l01Var_ev x.f1 (by omega) (by omega)) (Ev.pos (by simp only [size_append];omega) (Ev.bind (spec_l01Var_ev x.f2 (by omega) (by omega)) (Ev.pos (by simp only [size_append];omega) (Ev.bind (spec_l01Var_ev x.f3 (by omega) (by omega)) (Ev.pos (by simp only [size_append];omega) ?_)))))))))
  have e : acc ++ shortText x.f0 ++ varText x.f1.toNat ++ varText x.f2.toNat ++ varText x.f3.toNat = acc ++ hintRow x:=by simp only [hintRow,ByteArray.append_assoc]
  rw [e];exact ih
theorem dirOk_len {l : List S127} (h : dirOk l = true) : l.length ≤ 60 ∧ ∀ x ∈ l, spotOk x = true := by
 rw [dirOk,Bool.and_eq_true] at h;exact ⟨of_decide_eq_true h.1,dirIn_mem h.2⟩
theorem spec_HintText_ev (l : List S127) (hl : l.length ≤ 1048576) : Ev (fun k => spec_HintText.f k l) (hintText l) := by
 unfold spec_HintText.f hintText
 refine Ev.bind (spec_DirOk_ev l hl) ?_
 cases hk : dirOk l
 ·exact Ev.neg (by simp) (Ev.done (by simp))
 ·obtain ⟨h1,h2⟩:=dirOk_len hk;have s1:=varText_size (show l.length ≤ 34359738367 by omega);exact Ev.pos rfl (Ev.bind (spec_l01Var_nat _ (by omega)) (Ev.eq (spec_HintText_loop l hl l 0 _ rfl h2 (by omega)) (by simp)))
def unsealT (s : ByteArray) : ByteArray × Bool := if 4 ≤ s.size ∧ s.size ≤ 20004 ∧ s.extract (s.size - 4) s.size = four (sumOf (s.extract 0 (s.size - 4))) then (s.extract 0 (s.size - 4), true) else (⟨#[]⟩, false)
theorem split4 {s : ByteArray} (h : 4 ≤ s.size) : bytesOf s = bytesOf (s.extract 0 (s.size - 4)) ++ bytesOf (s.extract (s.size - 4) s.size) := by
 rw [bytesOf_extract,bytesOf_dropTo,List.drop_zero,List.take_append_drop]
theorem unseal_seal {t s : ByteArray} (h : sealT t = (s, true)) : unsealT s = (t, true) := by
 unfold sealT at h
 by_cases hc : t.size > 20000
 ·rw [if_pos hc] at h;simp at h
 ·rw [if_neg hc] at h;simp only [Prod.mk.injEq,and_true] at h;have h4:=four_size (sumOf t)
  have hs : s.size = t.size + 4:=by rw [← h,size_append,h4]
  have hb : bytesOf s = bytesOf t ++ bytesOf (four (sumOf t)):=by rw [← h,bytesOf_append]
  have hl : (bytesOf t).length = s.size - 4:=by rw [bytesOf_length];omega
  have e1 : s.extract 0 (s.size - 4) = t:=bytesOf_inj (by rw [bytesOf_extract,List.drop_zero,hb,← hl,List.take_left]);have e2 : s.extract (s.size - 4) s.size = four (sumOf t):=bytesOf_inj (by rw [bytesOf_dropTo,hb,← hl,List.drop_left])
  unfold unsealT
  rw [e1,e2,if_pos ⟨by omega,by omega,rfl⟩]
theorem seal_unseal {t s : ByteArray} (h : unsealT s = (t, true)) : sealT t = (s, true) ∧ t.size ≤ 20000 := by
 unfold unsealT at h
 split at h
 ·rename_i hc
  simp only [Prod.mk.injEq,and_true] at h;subst h
  have hz : (s.extract 0 (s.size - 4)).size = s.size - 4:=by have:=extract_size (s:=s) (a:=0) (b:=((s.size - 4 : Nat) : Int)) (by omega) (by omega) (by omega);simp only [Int.toNat_natCast] at this;have e : (0 : Int).toNat = 0:=rfl;rw [e] at this;omega
  unfold sealT
  refine ⟨?_,by omega⟩;rw [if_neg (by omega),← hc.2.2]
  congr 1
  exact bytesOf_inj (by rw [bytesOf_append,← split4 hc.1])
 ·simp at h
theorem spec_Unsealed_ev (s : ByteArray) (hs : s.size ≤ 1048576) : Ev (fun k => spec_Unsealed.f k s) (unsealT s) := by
 unfold spec_Unsealed.f unsealT
 rw [wrap64_id (by omega) (by omega)];refine Ev.ite (fun hc => Ev.done ?_) (fun hc => Ev.ite (fun hd => Ev.done ?_) (fun hd => Ev.pos (by omega) (Ev.pos (by omega) ?_)))
 ·rw [if_neg (by omega)]
 ·rw [if_neg (by omega)]
 have e : ((s.size : Int) - 4).toNat = s.size - 4:=by omega
 rw [e];refine Ev.bind (spec_SumOf_ev _ (by have:=extract_size (s:=s) (a:=0) (b:=((s.size - 4 : Nat) : Int)) (by omega) (by omega) (by omega);simp only [Int.toNat_natCast] at this;have e : (0 : Int).toNat = 0:=rfl;rw [e] at this;omega)) (Ev.call (spec_l02Four_eq _) (Ev.ite (fun h => Ev.done ?_) (fun h => Ev.done ?_)))
 ·rw [if_pos ⟨by omega,by omega,toList_inj.1 h⟩]
 ·rw [if_neg (fun h' => h (toList_inj.2 h'.2.2))]
theorem impl_Unsealed_ev (s : ByteArray) (hs : s.size ≤ 1048576) : Ev (fun k => impl_Unsealed.f k s) (unsealT s) := by
 unfold impl_Unsealed.f
 refine Ev.ite (fun hc => Ev.done ?_) (fun hc => ?_)
 ·unfold unsealT;rw [if_neg (by omega)]
 rw [wrap64_id (by omega) (by omega)]
 have e : ((s.size : Int) - 4).toNat = s.size - 4:=by omega
 have hz : (s.extract 0 (s.size - 4)).size = s.size - 4:=by have:=extract_size (s:=s) (a:=0) (b:=((s.size - 4 : Nat) : Int)) (by omega) (by omega) (by omega);simp only [Int.toNat_natCast] at this;have e : (0 : Int).toNat = 0:=rfl;rw [e] at this;omega
 rw [e];refine Ev.pos (by omega) (Ev.pos (by omega) (Ev.bind (impl_Sealed_ev _ (by omega)) (Ev.ite (fun h => Ev.ite (fun h' => Ev.done ?_) (fun h' => Ev.done ?_)) (fun h => Ev.done ?_))))
 ·exact (unseal_seal (show sealT (s.extract 0 (s.size - 4)) = (s,true) from Prod.ext (toList_inj.1 h') h)).symm
 ·cases hu : unsealT s with
  | mk t b =>
   cases b
   ·unfold unsealT at hu;split at hu
    ·simp at hu
    ·exact hu
   ·exfalso
    have hst:=(seal_unseal hu).1
    have e2 : t = s.extract 0 (s.size - 4):=by unfold unsealT at hu;split at hu <;> simp_all
    rw [← e2,hst] at h';exact h' rfl
 ·cases hu : unsealT s with
  | mk t b =>
   cases b
   ·unfold unsealT at hu;split at hu
    ·simp at hu
    ·exact hu
   ·exfalso
    have hst:=(seal_unseal hu).1
    have e2 : t = s.extract 0 (s.size - 4):=by unfold unsealT at hu;split at hu <;> simp_all
    rw [← e2,hst] at h;exact h rfl
def spotBytes (x : S127) : List Int := sh x.f0 ++ (varL x.f1.toNat ++ (varL x.f2.toNat ++ varL x.f3.toNat))
theorem hintRows_bytes : ∀ (l : List S127) (acc : ByteArray), bytesOf (hintRows acc l) = bytesOf acc ++ l.flatMap spotBytes
 | [],acc => by simp [hintRows]
 | x :: t,acc => by
  rw [hintRows,hintRows_bytes t,hintRow];simp only [bytesOf_append,bytesOf_shortText,bytesOf_varText,List.flatMap_cons,spotBytes,List.append_assoc]
theorem hint_parts {dir : List S127} {s : ByteArray} (h : hintText dir = (s, true)) : dirOk dir = true ∧ ∃ t, unsealT s = (t, true) ∧ t.size ≤ 20000 ∧ bytesOf t = varL dir.length ++ dir.flatMap spotBytes := by
 unfold hintText at h
 by_cases hk : dirOk dir = true
 ·rw [if_pos hk] at h;refine ⟨hk,_,unseal_seal h,(seal_unseal (unseal_seal h)).2,?_⟩;rw [hintRows_bytes,bytesOf_varText]
 ·rw [if_neg hk] at h;simp at h
theorem hint_make {dir : List S127} {s t : ByteArray} (hk : dirOk dir = true) (hu : unsealT s = (t, true)) (hb : bytesOf t = varL dir.length ++ dir.flatMap spotBytes) : hintText dir = (s, true) := by
 unfold hintText
 rw [if_pos hk];have : hintRows (varText dir.length) dir = t:=bytesOf_inj (by rw [hintRows_bytes,bytesOf_varText,hb]);rw [this];exact (seal_unseal hu).1
theorem spec_ReadHint_fin (x0 : ByteArray) (n : Int) (acc : List S127) (i : Int) (s : ByteArray) (a : Int) (b : Bool) (hl : acc.length ≤ 1048576) : Ev (fun k => spec_ReadHint.j1 k x0 n acc i false s a b) (if b = true then ([], false) else if hintText acc = (x0, true) then (acc, true) else ([], false)) := by
 refine Ev.step (fun _ => rfl) ?_;simp only [spec_ReadHint.j1];refine Ev.neg (by simp) (Ev.bind (spec_HintText_ev acc hl) (Ev.ite (fun h => Ev.done (by rw [if_pos h])) (fun h => ?_)));rw [if_neg h];refine Ev.ite (fun h1 => Ev.ite (fun h2 => Ev.done ?_) (fun h2 => Ev.done ?_)) (fun h1 => Ev.done ?_)
 ·rw [if_pos (Prod.ext (toList_inj.1 h2) h1)]
 ·rw [if_neg (fun e => h2 (by rw [e]))]
 ·rw [if_neg (fun e => h1 (by rw [e]))]
theorem spec_ReadHint_loop (x0 s : ByteArray) (hs : s.size ≤ 1048576) (N : Int) : ∀ (m n : Nat) (acc : List S127) (a : Int) (b : Bool), 61 - n ≤ m → n ≤ 61 → acc.length = n → 0 ≤ a → a ≤ s.size →
  To (fun k => spec_ReadHint.l0 k x0 N acc (n : Int) s a b) (fun r => r = ([],false) ∨ ∃ dir,r = (dir,true) ∧ hintText dir = (x0,true)):=by
 have fin : ∀ (n : Nat) (acc : List S127) (a : Int) (b : Bool),acc.length ≤ 61 → To (fun k => spec_ReadHint.j1 k x0 N acc (n : Int) false s a b) (fun r => r = ([],false) ∨ ∃ dir,r = (dir,true) ∧ hintText dir = (x0,true)):=by
  intro n acc a b h;refine To.ev (spec_ReadHint_fin x0 N acc n s a b (by omega)) ?_
  cases b
  ·rw [if_neg (by simp)]
   by_cases e : hintText acc = (x0,true)
   ·rw [if_pos e];exact Or.inr ⟨acc,rfl,e⟩
   ·rw [if_neg e];exact Or.inl rfl
  ·rw [if_pos rfl];exact Or.inl rfl
 intro m
 induction m with
 | zero =>
  intro n acc a b h1 h2 h3 h4 h5;refine To.step (fun _ => rfl) ?_;simp only [spec_ReadHint.l0];rw [decide_eq_false (by omega)];exact To.ite (fun _ => To.ite (fun _ => fin n acc a b (by omega)) (fun _ => fin n acc a b (by omega))) (fun _ => fin n acc a b (by omega))
 | succ m ih =>
  intro n acc a b h1 h2 h3 h4 h5;refine To.step (fun _ => rfl) ?_;simp only [spec_ReadHint.l0];refine To.ite (fun _ => To.ite (fun _ => fin n acc a b (by omega)) (fun hb => ?_)) (fun _ => fin n acc a b (by omega))
  by_cases c : (n : Int) ≤ 60
  ·rw [decide_eq_true c];refine To.step (fun _ => rfl) ?_;simp only [spec_ReadHint.j1,wrap64_succ (show n ≤ 9223372036854775806 by omega)];refine To.pos trivial (To.bind (To.ev (P:=fun r => r = curShort s a b) (spec_l05ReadShort_ev s a b (by omega) h4 h5) rfl) (fun r1 e1 => ?_));subst e1;have p1:=curShort_place (s:=s) (a:=a) (bad:=b) h4 h5;simp only [curShort_text];refine To.bind (To.ev (P:=fun r => r = _) (spec_l05Var_ev s _ _ (by omega)) rfl) (fun r2 e2 => ?_);subst e2;have p2:=curNum_place (s:=s) (a:=(curShort s a b).2.2.1) (bad:=(curShort s a b).2.2.2) p1.1 p1.2;simp only [curNum_text];refine To.bind (To.ev (P:=fun r => r = _) (spec_l05Var_ev s _ _ (by omega)) rfl) (fun r3 e3 => ?_);subst e3;have p3:=curNum_place (s:=s) (a:=(curNum s (curShort s a b).2.2.1 (curShort s a b).2.2.2).2.2.1) (bad:=(curNum s (curShort s a b).2.2.1 (curShort s a b).2.2.2).2.2.2) p2.1 p2.2;simp only [curNum_text];refine To.bind (To.ev (P:=fun r => r = _) (spec_l05Var_ev s _ _ (by omega)) rfl) (fun r4 e4 => ?_);subst e4;simp only [curNum_text];have p4:=curNum_place (s:=s) (bad:=(curNum s (curNum s (curShort s a b).2.2.1 (curShort s a b).2.2.2).2.2.1 (curNum s (curShort s a b).2.2.1 (curShort s a b).2.2.2).2.2.2).2.2.2) p3.1 p3.2;exact To.pos (by omega) (ih (n + 1) _ _ _ (by omega) (by omega) (by simp [h3]) p4.1 p4.2)
  ·rw [decide_eq_false c];exact fin n acc a b (by omega)
theorem spec_ReadHint_fwd (x0 s : ByteArray) (hs : s.size ≤ 1048576) (dir : List S127) (hd : dir.length ≤ 60) (ht : hintText dir = (x0, true)) : ∀ (rest : List S127) (n : Nat) (acc : List S127) (a b : Int), acc ++ rest = dir → acc.length = n → (∀ x ∈ rest, spotOk x = true) → At s a (rest.flatMap spotBytes) b →
  Ev (fun k => spec_ReadHint.l0 k x0 (dir.length : Int) acc (n : Int) s a false) (dir,true):=by
 intro rest
 induction rest with
 | nil =>
  intro n acc a b h1 h2 h3 h4;rw [List.append_nil] at h1;subst h1;refine Ev.step (fun _ => rfl) ?_;simp only [spec_ReadHint.l0];refine Ev.neg (by omega) (Ev.eq (spec_ReadHint_fin x0 _ acc _ s a false (by omega)) ?_);rw [if_neg (by simp),if_pos ht]
 | cons x t ih =>
  intro n acc a b h1 h2 h3 h4
  have hlen : acc.length + (t.length + 1) = dir.length:=by rw [← h1];simp
  rw [List.flatMap_cons,spotBytes] at h4;obtain ⟨q1,h4⟩:=(show At s a (sh x.f0 ++ ((varL x.f1.toNat ++ (varL x.f2.toNat ++ varL x.f3.toNat)) ++ t.flatMap spotBytes)) b by simpa only [List.append_assoc] using h4).split;obtain ⟨q2,h4⟩:=(show At s _ (varL x.f1.toNat ++ ((varL x.f2.toNat ++ varL x.f3.toNat) ++ t.flatMap spotBytes)) b by simpa only [List.append_assoc] using h4).split;obtain ⟨q3,h4⟩:=(show At s _ (varL x.f2.toNat ++ (varL x.f3.toNat ++ t.flatMap spotBytes)) b by simpa only [List.append_assoc] using h4).split;obtain ⟨q4,h4⟩:=h4.split;obtain ⟨z0,z1,z2,z3⟩:=spotOk_sizes (h3 x List.mem_cons_self);have l1:=q1.le;have l2:=q2.le;have l3:=q3.le;have l4:=q4.le;refine Ev.step (fun _ => rfl) ?_;simp only [spec_ReadHint.l0];rw [decide_eq_true (show (n : Int) ≤ 60 by omega)];refine Ev.pos (by omega) (Ev.neg (by simp) ?_);refine Ev.step (fun _ => rfl) ?_;simp only [spec_ReadHint.j1,wrap64_succ (show n ≤ 9223372036854775806 by omega)];refine Ev.pos trivial (Ev.bind (Ev.eq (spec_l05ReadShort_ev s a false (by omega) (by omega) (by omega)) (curShort_fwd q1 (by omega))) ?_);refine Ev.bind (Ev.eq (spec_l05Var_ev s _ false (by omega)) (curNum_fwd q2 (by omega))) (Ev.bind (Ev.eq (spec_l05Var_ev s _ false (by omega)) (curNum_fwd q3 (by omega))) (Ev.bind (Ev.eq (spec_l05Var_ev s _ false (by omega)) (curNum_fwd q4 (by omega))) (Ev.pos (by omega) ?_)));simp only [Int.toNat_of_nonneg z1.1,Int.toNat_of_nonneg z2.1,Int.toNat_of_nonneg z3.1];exact ih (n + 1) _ _ b (by rw [← h1,List.append_assoc];rfl) (by simp [h2]) (fun y hy => h3 y (List.mem_cons_of_mem _ hy)) h4
theorem spec_ReadHint_to (s : ByteArray) (hs : s.size ≤ 1048576) : To (fun k => spec_ReadHint.f k s) (fun r => r = ([], false) ∨ ∃ dir, r = (dir, true) ∧ hintText dir = (s, true)) := by
 unfold spec_ReadHint.f
 refine To.bind (To.ev (P:=fun r => r = unsealT s) (spec_Unsealed_ev s hs) rfl) (fun r e => ?_);subst e
 have hz : (unsealT s).1.size ≤ 20000:=by
  cases hu : unsealT s with
  | mk t b => cases b with
   | true => exact (seal_unseal hu).2
   | false => unfold unsealT at hu;split at hu <;> simp_all;rw [← hu];exact Nat.zero_le _
 refine To.bind (To.ev (P:=fun r => r = _) (spec_l05Var_ev (unsealT s).1 0 (!(unsealT s).2) (by omega)) rfl) (fun r e => ?_);subst e;have p:=curNum_place (s:=(unsealT s).1) (a:=0) (bad:=!(unsealT s).2) (by omega) (by omega);simp only [curNum_text];exact spec_ReadHint_loop s _ (by omega) _ 61 0 [] _ _ (by omega) (by omega) rfl p.1 p.2
theorem spec_ReadHint_good (s : ByteArray) (hs : s.size ≤ 1048576) (dir : List S127) (h : hintText dir = (s, true)) : Ev (fun k => spec_ReadHint.f k s) (dir, true) := by
 obtain ⟨hk,t,hu,ht,hb⟩:=hint_parts h;obtain ⟨d1,d2⟩:=dirOk_len hk;have hw:=At.whole t;rw [hb] at hw;obtain ⟨q1,q2⟩:=hw.split
 unfold spec_ReadHint.f
 refine Ev.bind (Ev.eq (spec_Unsealed_ev s hs) hu) (Ev.bind (Ev.eq (spec_l05Var_ev t 0 false (by omega)) (curNum_fwd q1 (by omega))) ?_);exact spec_ReadHint_fwd s t (by omega) dir d1 h dir 0 [] _ _ rfl rfl d2 q2
theorem impl_ReadHint_step (s : ByteArray) (hs : s.size ≤ 1048576) (a : Int) (h0 : 0 ≤ a) (h1 : a ≤ s.size) (acc : List S127) (hl : acc.length ≤ 1048576) : To (fun k => impl_ReadHint.one k s a false acc) (fun r => r.1 = s ∧ r.2.2.2.length = acc.length + 1 ∧ (r.2.2.1 = false → ∃ x, r.2.2.2 = acc ++ [x] ∧ At s a (spotBytes x) r.2.1)) := by
 unfold impl_ReadHint.one
 refine To.bind (To.ev (P:=fun r => r = curText s a false) (impl_reader_text_ev s a false (by omega)) rfl) (fun r1 e1 => ?_);subst e1;simp only [curText_text];refine To.bind (To.ev (P:=fun r => r = _) (impl_reader_num_ev s _ _ (by omega)) rfl) (fun r2 e2 => ?_);subst e2;simp only [curNum_text];refine To.bind (To.ev (P:=fun r => r = _) (impl_reader_num_ev s _ _ (by omega)) rfl) (fun r3 e3 => ?_);subst e3;simp only [curNum_text];refine To.bind (To.ev (P:=fun r => r = _) (impl_reader_num_ev s _ _ (by omega)) rfl) (fun r4 e4 => ?_);subst e4;simp only [curNum_text];refine To.pos (by omega) (To.now ⟨rfl,by simp,fun hb => ⟨_,rfl,?_⟩⟩);dsimp only at hb ⊢;obtain ⟨hb,m4,-⟩:=curNum_good' hb;obtain ⟨hb,m3,-⟩:=curNum_good' hb;obtain ⟨hb,m2,-⟩:=curNum_good' hb;obtain ⟨-,m1,-⟩:=curText_good' hb;exact m1.trans (m2.trans (m3.trans m4))
theorem impl_ReadHint_bad (N i : Int) (s : ByteArray) (a : Int) (acc : List S127) : To (fun k => impl_ReadHint.l0 k N i s a true acc) (fun r => r = (s, a, true, acc)) := by
 refine To.step (fun _ => rfl) ?_;simp only [impl_ReadHint.l0];exact To.ite (fun _ => To.pos (by simp) (To.now rfl)) (fun _ => To.now rfl)
theorem spotBytes_pos (x : S127) : 1 ≤ (spotBytes x).length := by
 have:=varL_pos x.f3.toNat
 unfold spotBytes
 simp only [List.length_append]
 omega
theorem impl_ReadHint_loop (s : ByteArray) (hs : s.size ≤ 1000000) (N : Int) : ∀ (m : Nat) (i a : Int) (b : Bool) (acc : List S127), 0 ≤ a → a ≤ s.size → (acc.length : Int) ≤ a + (if b = true then 1 else 0) → (s.size : Int) - a + (if b = true then 0 else 1) ≤ m → 0 ≤ i → i ≤ 2000000000 → N ≤ 1000000000 →
  To (fun k => impl_ReadHint.l0 k N i s a b acc) (fun r => r.1 = s ∧ r.2.2.2.length ≤ 1048576 ∧ (r.2.2.1 = false → ∃ rest,r.2.2.2 = acc ++ rest ∧ At s a (rest.flatMap spotBytes) r.2.1 ∧ (i ≤ N → i + (rest.length : Int) = N) ∧ (N < i → rest = []))):=by
 intro m
 induction m with
 | zero =>
  intro i a b acc h0 h1 h2 h3 h4 h5 h6
  obtain rfl : b = true:=by cases b <;> simp_all;omega
  simp only [if_true] at h2;refine To.step (fun _ => rfl) ?_;simp only [impl_ReadHint.l0];refine To.ite (fun _ => To.pos (by simp) (To.now ⟨rfl,by dsimp only;omega,fun h => by cases h⟩)) (fun _ => To.now ⟨rfl,by dsimp only;omega,fun h => by cases h⟩)
 | succ m ih =>
  intro i a b acc h0 h1 h2 h3 h4 h5 h6;refine To.step (fun _ => rfl) ?_;simp only [impl_ReadHint.l0]
  cases b with
  | true =>
   simp only [if_true] at h2;refine To.ite (fun _ => To.pos (by simp) (To.now ⟨rfl,by dsimp only;omega,fun h => by cases h⟩)) (fun _ => To.now ⟨rfl,by dsimp only;omega,fun h => by cases h⟩)
  | false =>
   simp only [Bool.false_eq_true,if_false] at h2 h3;refine To.ite (fun c => To.neg (by simp) (To.bind (impl_ReadHint_step s (by omega) a h0 h1 acc (by omega)) (fun r p => ?_))) (fun c => To.now ⟨rfl,by dsimp only;omega,fun _ => ⟨[],by simp,At.nil h0 h1,fun h => by simp;omega,fun _ => rfl⟩⟩);obtain ⟨s',a',b',out'⟩:=r;obtain ⟨p1,p2,p3⟩:=p;dsimp only at p1 p2 p3 ⊢;subst p1;rw [wrap64_id (by omega) (by omega)]
   cases b' with
   | true =>
    refine To.mono (P:=fun r => r.1 = s' ∧ r.2.2.2.length ≤ 1048576 ∧ r.2.2.1 = true) ?_ (fun r q => ⟨q.1,q.2.1,fun h => by rw [q.2.2] at h;cases h⟩);refine To.step (fun _ => rfl) ?_;simp only [impl_ReadHint.l0];exact To.ite (fun _ => To.pos (by simp) (To.now ⟨rfl,by dsimp only;omega,rfl⟩)) (fun _ => To.now ⟨rfl,by dsimp only;omega,rfl⟩)
   | false =>
    obtain ⟨x,rfl,hx⟩:=p3 rfl;have hx1:=hx.le;have hx2:=spotBytes_pos x;refine To.mono (ih (i + 1) a' false (acc ++ [x]) (by omega) (by omega) (by simp;omega) (by simp;omega) (by omega) (by omega) h6) (fun r q => ⟨q.1,q.2.1,fun h => ?_⟩);obtain ⟨rest,e1,e2,e3,e4⟩:=q.2.2 h;refine ⟨x :: rest,by rw [e1];simp,?_,fun _ => ?_,fun h => by omega⟩
    ·rw [List.flatMap_cons];exact hx.trans e2
    ·have:=e3 (by omega);simp;omega
theorem impl_ReadHint_fwd (s : ByteArray) (hs : s.size ≤ 1048576) : ∀ (rest : List S127) (i : Nat) (acc : List S127) (a b : Int), (∀ x ∈ rest, spotOk x = true) → i + rest.length ≤ 60 → acc.length = i → At s a (rest.flatMap spotBytes) b →
  Ev (fun k => impl_ReadHint.l0 k ((i + rest.length : Nat) : Int) (i : Int) s a false acc) (s,b,false,acc ++ rest):=by
 intro rest
 induction rest with
 | nil =>
  intro i acc a b h1 h2 h3 h4;refine Ev.step (fun _ => rfl) ?_;simp only [impl_ReadHint.l0];have:=h4.le;refine Ev.neg (by simp) (Ev.done ?_);simp only [List.flatMap_nil,List.length_nil] at this;rw [List.append_nil,show a = b by omega]
 | cons x t ih =>
  intro i acc a b h1 h2 h3 h4;rw [List.length_cons] at h2;rw [List.flatMap_cons,spotBytes] at h4;obtain ⟨q1,h4⟩:=(show At s a (sh x.f0 ++ ((varL x.f1.toNat ++ (varL x.f2.toNat ++ varL x.f3.toNat)) ++ t.flatMap spotBytes)) b by simpa only [List.append_assoc] using h4).split;obtain ⟨q2,h4⟩:=(show At s _ (varL x.f1.toNat ++ ((varL x.f2.toNat ++ varL x.f3.toNat) ++ t.flatMap spotBytes)) b by simpa only [List.append_assoc] using h4).split;obtain ⟨q3,h4⟩:=(show At s _ (varL x.f2.toNat ++ (varL x.f3.toNat ++ t.flatMap spotBytes)) b by simpa only [List.append_assoc] using h4).split;obtain ⟨q4,h4⟩:=h4.split;obtain ⟨z0,z1,z2,z3⟩:=spotOk_sizes (h1 x List.mem_cons_self);refine Ev.step (fun _ => rfl) ?_;simp only [impl_ReadHint.l0,impl_ReadHint.one,wrap64_succ (show i ≤ 9223372036854775806 by omega)];refine Ev.pos (by simp only [List.length_cons];omega) (Ev.neg (by simp) (Ev.bind (a:=(s,a + ((sh x.f0).length : Int) + ((varL x.f1.toNat).length : Int) + ((varL x.f2.toNat).length : Int) + ((varL x.f3.toNat).length : Int),false,acc ++ [x])) ?_ ?_))
  ·refine Ev.bind (Ev.eq (impl_reader_text_ev s a false (by omega)) (curText_fwd q1 (by omega))) (Ev.bind (Ev.eq (impl_reader_num_ev s _ false (by omega)) (curNum_fwd q2 (by omega))) (Ev.bind (Ev.eq (impl_reader_num_ev s _ false (by omega)) (curNum_fwd q3 (by omega))) (Ev.bind (Ev.eq (impl_reader_num_ev s _ false (by omega)) (curNum_fwd q4 (by omega))) (Ev.pos (by omega) (Ev.done ?_)))));simp only [Int.toNat_of_nonneg z1.1,Int.toNat_of_nonneg z2.1,Int.toNat_of_nonneg z3.1]
  ·have:=ih (i + 1) (acc ++ [x]) _ b (fun y hy => h1 y (List.mem_cons_of_mem _ hy)) (by omega) (by simp [h3]) h4;rw [show i + 1 + t.length = i + (x :: t).length by simp;omega] at this;exact Ev.eq this (by simp)
theorem impl_ReadHint_to (s : ByteArray) (hs : s.size ≤ 1048576) : To (fun k => impl_ReadHint.f k s) (fun r => r = ([], false) ∨ ∃ dir, r = (dir, true) ∧ hintText dir = (s, true)) := by
 unfold impl_ReadHint.f
 refine To.bind (To.ev (P:=fun r => r = unsealT s) (impl_Unsealed_ev s hs) rfl) (fun r e => ?_);subst e;refine To.ite (fun hok => ?_) (fun _ => To.now (Or.inl rfl))
 cases hu : unsealT s with
 | mk t b =>
 rw [hu] at hok;obtain rfl : b = true:=hok;dsimp only;have hz:=(seal_unseal hu).2
 unfold impl_ReadHint.each
 refine To.bind (P:=fun r => r.1 = t ∧ r.2.2.2.length ≤ 1048576 ∧ (r.2.2.1 = false → At t 0 (varL r.2.2.2.length ++ r.2.2.2.flatMap spotBytes) r.2.1)) ?_ (fun r p => ?_)
 ·refine To.bind (To.ev (P:=fun r => r = curNum t 0 false) (impl_reader_num_ev t 0 false (by omega)) rfl) (fun r e => ?_);subst e;simp only [curNum_text];have hp:=curNum_place (s:=t) (a:=0) (bad:=false) (by omega) (by omega);have hn:=curNum_nonneg t 0 false
  cases hb : (curNum t 0 false).2.2.2
  ·refine To.mono (impl_ReadHint_loop t (by omega) (curNum t 0 false).1 (t.size + 1) 0 (curNum t 0 false).2.2.1 false [] hp.1 hp.2 (by simp;omega) (by simp;omega) (by omega) (by omega) hn.2) (fun r q => ⟨q.1,q.2.1,fun h => ?_⟩);obtain ⟨rest,e1,e2,e3,-⟩:=q.2.2 h;have e3:=e3 hn.1;obtain ⟨-,m1,-⟩:=curNum_good' hb;rw [e1,List.nil_append];rw [show rest.length = (curNum t 0 false).1.toNat by omega];exact m1.trans e2
  ·exact To.mono (impl_ReadHint_bad _ _ _ _ _) (fun r q => by subst q;exact ⟨rfl,by simp,fun h => by cases h⟩)
 ·obtain ⟨s',a',b',out⟩:=r;obtain ⟨p1,p2,p3⟩:=p;dsimp only at p1 p2 p3 ⊢;subst p1;refine To.call (P:=fun z => z = ((!b' && a' == (s'.size : Int)),s',a',b')) ⟨_,impl_reader_done_eq _ _ _,rfl⟩ (fun z hz => ?_);subst hz;refine To.ite (fun hd => To.bind (To.ev (P:=fun z => z = dirOk out) (impl_DirOk_ev out p2) rfl) (fun z hz => ?_)) (fun _ => To.now (Or.inl rfl));subst hz;refine To.ite (fun hk => To.now (Or.inr ⟨out,rfl,?_⟩)) (fun _ => To.now (Or.inl rfl));simp only [Bool.and_eq_true,Bool.not_eq_true',beq_iff_eq] at hd;have hw:=p3 hd.1;rw [hd.2] at hw;exact hint_make hk hu hw.all
theorem impl_ReadHint_good (s : ByteArray) (hs : s.size ≤ 1048576) (dir : List S127) (h : hintText dir = (s, true)) : Ev (fun k => impl_ReadHint.f k s) (dir, true) := by
 obtain ⟨hk,t,hu,ht,hb⟩:=hint_parts h;obtain ⟨d1,d2⟩:=dirOk_len hk;have hw:=At.whole t;rw [hb] at hw;obtain ⟨q1,q2⟩:=hw.split
 unfold impl_ReadHint.f impl_ReadHint.each
 refine Ev.bind (Ev.eq (impl_Unsealed_ev s hs) hu) (Ev.pos rfl (Ev.bind (a:=(t,(t.size : Int),false,dir)) ?_ ?_))
 ·refine Ev.bind (Ev.eq (impl_reader_num_ev t 0 false (by omega)) (curNum_fwd q1 (by omega))) ?_;have:=impl_ReadHint_fwd t (by omega) dir 0 [] _ _ d2 (by omega) rfl q2;rw [Nat.zero_add] at this;exact this
 ·refine Ev.call (impl_reader_done_eq _ _ _) (Ev.pos (by simp) (Ev.bind (Ev.eq (impl_DirOk_ev dir (by omega)) hk) (Ev.pos rfl (Ev.now _))))
theorem FnExactReadHint_q (s : ByteArray) (_ : s.size ≤ 140737488351232) : ∃ k, laws_FnExactReadHint.f k s = some true := by
 apply Ev.rounds
 unfold laws_FnExactReadHint.f
 refine Ev.ite (fun _ => Ev.now _) (fun hc => ?_)
 have hl : s.size ≤ 1048576:=by omega
 obtain ⟨dir,ok,hz,hs,hi⟩ : ∃ dir ok,dir.length ≤ 1048576 ∧ Ev (fun k => spec_ReadHint.f k s) (dir,ok) ∧ Ev (fun k => impl_ReadHint.f k s) (dir,ok):=by
  by_cases hex : ∃ dir,hintText dir = (s,true)
  ·obtain ⟨dir,h⟩:=hex;have:=(dirOk_len (hint_parts h).1).1;exact ⟨dir,true,by omega,spec_ReadHint_good s hl dir h,impl_ReadHint_good s hl dir h⟩
  ·obtain ⟨r,hr,p⟩:=spec_ReadHint_to s hl;obtain ⟨r',hr',p'⟩:=impl_ReadHint_to s hl
   rcases p with rfl|⟨dir,-,h⟩
   ·rcases p' with rfl|⟨dir,-,h⟩
    ·exact ⟨[],false,by simp,hr,hr'⟩
    ·exact absurd ⟨dir,h⟩ hex
   ·exact absurd ⟨dir,h⟩ hex
 have eqr:=laws_eqSpotS_refl dir (by omega);have hh:=laws_heldSpotS_ev dir 1 (by omega) (by omega) (by omega);have hm:=laws_markSpotS_ev dir 1 (by omega) (by omega) (by omega);refine Ev.bind hs (Ev.bind hi (Ev.bind eqr (Ev.pos rfl ?_)));refine Ev.step (fun _ => rfl) ?_;simp only [laws_FnExactReadHint.j0];refine Ev.neg (by simp) (Ev.bind hm (Ev.bind hh (Ev.neg (by omega) (Ev.pos rfl (Ev.bind hi (Ev.bind eqr (Ev.pos rfl ?_)))))));refine Ev.step (fun _ => rfl) ?_;simp only [laws_FnExactReadHint.j1];exact Ev.neg (by simp) (Ev.bind hh (Ev.neg (by omega) (Ev.pos rfl (Ev.now _))))
end Go.Proofs.Ytgpafelepkhdoaa.Pure
