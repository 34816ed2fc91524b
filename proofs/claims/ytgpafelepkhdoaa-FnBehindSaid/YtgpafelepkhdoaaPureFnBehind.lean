/- The law FnBehind answers true: a drawn log that begins behind one of its entries has the same entries and terms there, and its last. For all arguments; no further condition. -/
import Derived.Test.YtgpafelepkhdoaaPFnBehindx19
import Derived.Test.YtgpafelepkhdoaaVFnBehindBase
namespace Go.Proofs.Ytgpafelepkhdoaa.Pure
open Go.RowKit Go.Proofs.Ytgpafelepkhdoaa.PFnBehind Go.Proofs.YtgpafelepkhdoaaW.PrintWords Go.Proofs.YtgpafelepkhdoaaW.PrintLast Go.Proofs.Ytgpafelepkhdoaa.Base
set_option linter.unusedVariables false
theorem rdT37_drop {xs : List S37} {n : Nat} {x : S37} {t : List S37} (h : xs.drop n = x :: t) : rd_T37 xs (n : Int) = x := by
 unfold rd_T37
 rw [Int.toNat_natCast];exact (drop_cons h).2.1 _
def entriesOk (t : Int) : List S37 → Bool
 | [] => true
 | e :: r => entryOk e.f0 e.f1 e.f2 && (decide (t ≤ e.f0) && entriesOk e.f0 r)
def logOk (s t : Int) (l : List S37) : Bool := inR s 0 100000 && (inR t 0 100000 && (decide (l.length ≤ 120) && (decide (s + (l.length : Int) ≤ 100000) && entriesOk t l)))
theorem logOk_bounds {s t : Int} {l : List S37} (h : logOk s t l = true) : (0 ≤ s ∧ s ≤ 100000) ∧ (0 ≤ t ∧ t ≤ 100000) ∧ l.length ≤ 120 ∧ s + (l.length : Int) ≤ 100000 := by
 unfold logOk at h
 simp only [Bool.and_eq_true,inR_true,decide_eq_true_eq] at h;exact ⟨h.1,h.2.1,h.2.2.1,h.2.2.2.1⟩
theorem spec_l01In_eq (a b c : Int) : spec_l01In.f a b c = some (inR a b c) := by
 unfold spec_l01In.f inR
 by_cases h : b ≤ a
 ·rw [if_pos h];simp [h]
 ·rw [if_neg h];simp [h]
theorem impl_within_eq (a b c : Int) : impl_within.f a b c = some (inR a b c) := by
 unfold impl_within.f inR
 by_cases h : b ≤ a
 ·rw [if_pos h];simp [h]
 ·rw [if_neg h];simp [h]
theorem spec_l07Rise_loop (xs : List Int) (lo hi : Int) (hx : xs.length ≤ 9223372036854775806) : ∀ (rest : List Int) (n : Nat), xs.drop n = rest →
  Ev (fun k => spec_l07Rise.l0 k xs lo hi (n : Int)) (rise lo hi (prevOf xs n) rest):=by
 intro rest
 induction rest with
 | nil =>
  intro n h;have:=drop_nil h;refine Ev.step (fun _ => rfl) ?_;simp only [spec_l07Rise.l0];exact Ev.neg (by omega) (Ev.done (by cases n <;> rfl))
 | cons x t ih =>
  intro n h;obtain ⟨h1,-,h3⟩:=drop_cons h;have ih:=ih (n + 1) h3;rw [prevOf_next h] at ih;refine Ev.step (fun _ => rfl) ?_;simp only [spec_l07Rise.l0,drop_rd h,wrap64_succ (show n ≤ 9223372036854775806 by omega)];refine Ev.pos (by omega) (Ev.pos (by omega) (Ev.call (spec_l01In_eq _ _ _) ?_))
  cases hb : inR x lo hi
  ·exact Ev.neg (by simp) (Ev.done (by cases n <;> simp [rise,prevOf,hb]))
  ·refine Ev.pos rfl ?_
   cases n with
   | zero => exact Ev.neg (by omega) (Ev.eq ih (by simp [rise,prevOf,hb]))
   | succ m =>
    refine Ev.pos (by omega) ?_;simp only [wrap64_pred (show m ≤ 9223372036854775806 by omega)];refine Ev.pos (by omega) (Ev.pos (by omega) (Ev.ite (fun hc => Ev.done ?_) (fun hc => Ev.eq ih ?_)))
    ·simp only [prevOf,rise,hb,decide_eq_false (show ¬ rd xs (m : Int) < x by omega)];simp
    ·simp only [prevOf,rise,hb,decide_eq_true (show rd xs (m : Int) < x by omega)];simp
theorem spec_l07Rise_ev (xs : List Int) (lo hi : Int) (hx : xs.length ≤ 9223372036854775806) : Ev (fun k => spec_l07Rise.f k xs lo hi) (rise lo hi none xs) :=
 spec_l07Rise_loop xs lo hi hx xs 0 rfl
theorem spec_ConfOk_ev (xs : List Int) (hx : xs.length ≤ 9223372036854775806) : Ev (fun k => spec_ConfOk.f k xs) (confOk xs) := by
 unfold spec_ConfOk.f
 refine Ev.call (spec_l01In_eq _ _ _) ?_
 cases hb : inR xs.length 1 4
 ·exact Ev.neg (by simp) (Ev.done (by simp [confOk,hb]))
 ·exact Ev.pos rfl (Ev.bind (spec_l07Rise_ev xs 1 4 hx) (Ev.done (by simp [confOk,hb])))
theorem impl_ConfOk_loop (xs : List Int) (hx : xs.length ≤ 9223372036854775806) : ∀ (rest : List Int) (n : Nat), xs.drop n = rest →
  Ev (fun k => impl_ConfOk.l0 k xs xs (xs.length : Int) (n : Int)) (rise 1 4 (prevOf xs n) rest && inR xs.length 1 4):=by
 intro rest
 induction rest with
 | nil =>
  intro n h;have:=drop_nil h;refine Ev.step (fun _ => rfl) ?_;simp only [impl_ConfOk.l0];exact Ev.neg (by omega) (Ev.call (impl_within_eq _ _ _) (Ev.done (by cases n <;> simp [rise])))
 | cons x t ih =>
  intro n h;obtain ⟨h1,-,h3⟩:=drop_cons h;have ih:=ih (n + 1) h3;rw [prevOf_next h] at ih;refine Ev.step (fun _ => rfl) ?_;simp only [impl_ConfOk.l0,drop_rd h,wrap64_succ (show n ≤ 9223372036854775806 by omega)];refine Ev.pos (by omega) (Ev.pos (by omega) (Ev.pos (by omega) (Ev.call (impl_within_eq _ _ _) ?_)))
  cases hb : inR x 1 4
  ·exact Ev.neg (by simp) (Ev.done (by cases n <;> simp [rise,prevOf,hb]))
  ·refine Ev.pos rfl ?_
   cases n with
   | zero => exact Ev.neg (by omega) (Ev.eq ih (by simp [rise,prevOf,hb]))
   | succ m =>
    refine Ev.pos (by omega) ?_;simp only [wrap64_pred (show m ≤ 9223372036854775806 by omega)];refine Ev.pos (by omega) (Ev.pos (by omega) (Ev.ite (fun hc => Ev.done ?_) (fun hc => Ev.eq ih ?_)))
    ·simp only [prevOf,rise,hb,decide_eq_false (show ¬ rd xs (m : Int) < x by omega)];simp
    ·simp only [prevOf,rise,hb,decide_eq_true (show rd xs (m : Int) < x by omega)];simp
theorem impl_ConfOk_ev (xs : List Int) (hx : xs.length ≤ 9223372036854775806) : Ev (fun k => impl_ConfOk.f k xs) (confOk xs) :=
 Ev.eq (impl_ConfOk_loop xs hx xs 0 rfl) (by rw [confOk,Bool.and_comm];rfl)
theorem spec_ConfText_loop (xs : List Int) (hx : xs.length ≤ 1048576) : ∀ (rest : List Int) (n : Nat) (acc : List Int), xs.drop n = rest → acc.length = n →
  Ev (fun k => spec_ConfText.l0 k xs acc (n : Int)) (strOfNums (acc ++ rest.map (· % 256)),true):=by
 intro rest
 induction rest with
 | nil =>
  intro n acc h ha;have:=drop_nil h;refine Ev.step (fun _ => rfl) ?_;simp only [spec_ConfText.l0];exact Ev.neg (by omega) (Ev.done (by simp))
 | cons x t ih =>
  intro n acc h ha;obtain ⟨h1,-,h3⟩:=drop_cons h;refine Ev.step (fun _ => rfl) ?_;simp only [spec_ConfText.l0,drop_rd h,wrap64_succ (show n ≤ 9223372036854775806 by omega)];exact Ev.pos (by omega) (Ev.pos (by omega) (Ev.pos (by omega) (Ev.eq (ih (n + 1) (acc ++ [x % 256]) h3 (by simp [ha])) (by simp))))
theorem spec_ConfText_ev (xs : List Int) (hx : xs.length ≤ 1048576) : Ev (fun k => spec_ConfText.f k xs) (confText xs) := by
 unfold spec_ConfText.f
 refine Ev.bind (spec_ConfOk_ev xs (by omega)) ?_
 unfold confText
 cases hb : confOk xs
 ·exact Ev.neg (by simp) (Ev.done (by simp))
 ·exact Ev.pos rfl (Ev.eq (spec_ConfText_loop xs hx xs 0 [] rfl rfl) (by simp))
theorem spec_ReadConf_loop (s : ByteArray) (hx : s.size ≤ 1048576) : ∀ (rest : List Int) (n : Nat) (acc : List Int), (bytesOf s).drop n = rest → acc = (bytesOf s).take n → n ≤ 5 →
  Ev (fun k => spec_ReadConf.l0 k s acc (n : Int)) (readConf s):=by
 have hz:=bytesOf_length s
 have whole : ∀ (acc : List Int),acc = bytesOf s → Ev (fun k => if (acc.length : Int) = (s.size : Int) then ((spec_ConfOk.f k acc).bind fun t => (if t = true then (some (acc,true)) else (some ((([] : List Int)),false)))) else (some ((([] : List Int)),false))) (readConf s):=by
  intro acc ha;subst ha;refine Ev.pos (by omega) (Ev.bind (spec_ConfOk_ev _ (by omega)) ?_)
  unfold readConf
  cases hb : confOk (bytesOf s)
  ·exact Ev.neg (by simp) (Ev.done (by simp))
  ·exact Ev.pos rfl (Ev.done (by simp))
 intro rest
 induction rest with
 | nil =>
  intro n acc h ha h5;have:=bytesOf_drop_nil h;refine Ev.step (fun _ => rfl) ?_;simp only [spec_ReadConf.l0];exact Ev.neg (by omega) (whole acc (by rw [ha,List.take_of_length_le (by omega)]))
 | cons x t ih =>
  intro n acc h ha h5;obtain ⟨h1,h2,h3,h4,h6⟩:=bytesOf_drop_lt h;refine Ev.step (fun _ => rfl) ?_;simp only [spec_ReadConf.l0,h2,wrap64_id (show -9223372036854775808 ≤ x by omega) (show x ≤ 9223372036854775807 by omega),wrap64_succ (show n ≤ 9223372036854775806 by omega)];refine Ev.pos (by omega) (Ev.ite (fun hc => ?_) (fun hc => ?_))
  ·refine Ev.pos (by omega) (Ev.pos (by rw [ha,List.length_take];omega) (ih (n + 1) (acc ++ [x]) h3 ?_ (by omega)));rw [ha,List.take_succ_eq_append_getElem (show n < (bytesOf s).length by omega)];have e:=drop_rd h;rw [rd_nat,List.getD_eq_getElem?_getD,List.getElem?_eq_getElem (show n < (bytesOf s).length by omega)] at e;rw [← e];rfl
  ·have hl : acc.length = n:=by rw [ha,List.length_take];omega
   have hf : confOk (bytesOf s) = false:=by
    cases hb : confOk (bytesOf s)
    ·rfl
    ·have:=confOk_len hb;omega
   by_cases he : n = s.size
   ·exact whole acc (by rw [ha,List.take_of_length_le (by omega)])
   ·exact Ev.neg (by omega) (Ev.done (by simp [readConf,hf]))
theorem spec_ReadConf_ev (s : ByteArray) (hx : s.size ≤ 1048576) : Ev (fun k => spec_ReadConf.f k s) (readConf s) :=
 spec_ReadConf_loop s hx _ 0 [] rfl rfl (by omega)
theorem impl_ReadConf_loop (s : ByteArray) (hx : s.size ≤ 1048576) : ∀ (rest : List Int) (n : Nat) (acc : List Int), (bytesOf s).drop n = rest → acc = (bytesOf s).take n →
  Ev (fun k => impl_ReadConf.l0 k s acc (n : Int)) (readConf s):=by
 have hz:=bytesOf_length s;intro rest
 induction rest with
 | nil =>
  intro n acc h ha;have:=bytesOf_drop_nil h;refine Ev.step (fun _ => rfl) ?_;simp only [impl_ReadConf.l0]
  obtain rfl : acc = bytesOf s:=by rw [ha,List.take_of_length_le (by omega)]
  refine Ev.neg (by omega) (Ev.bind (impl_ConfOk_ev _ (by omega)) ?_)
  unfold readConf
  cases hb : confOk (bytesOf s)
  ·exact Ev.neg (by simp) (Ev.done (by simp))
  ·exact Ev.pos rfl (Ev.done (by simp))
 | cons x t ih =>
  intro n acc h ha;obtain ⟨h1,h2,h3,h4,h6⟩:=bytesOf_drop_lt h;refine Ev.step (fun _ => rfl) ?_;simp only [impl_ReadConf.l0,h2,wrap64_id (show -9223372036854775808 ≤ x by omega) (show x ≤ 9223372036854775807 by omega),wrap64_succ (show n ≤ 9223372036854775806 by omega)];refine Ev.pos (by omega) (Ev.pos (by omega) (Ev.pos (by rw [ha,List.length_take];omega) (ih (n + 1) (acc ++ [x]) h3 ?_)));rw [ha,List.take_succ_eq_append_getElem (show n < (bytesOf s).length by omega)];have e:=drop_rd h;rw [rd_nat,List.getD_eq_getElem?_getD,List.getElem?_eq_getElem (show n < (bytesOf s).length by omega)] at e;rw [← e];rfl
theorem impl_ReadConf_ev (s : ByteArray) (hx : s.size ≤ 1048576) : Ev (fun k => impl_ReadConf.f k s) (readConf s) :=
 impl_ReadConf_loop s hx _ 0 [] rfl rfl
theorem spec_l01Var_loop : ∀ (n : Nat) (acc : List Int), acc.length + n < 140737488355328 →
  Ev (fun k => spec_l01Var.l0 k (n : Int) acc) (strOfNums (acc ++ varL n)):=by
 intro n
 induction n using Nat.strongRecOn with
 | ind n ih =>
  intro acc h;refine Ev.step (fun _ => rfl) ?_;simp only [spec_l01Var.l0,tdiv128 n (by omega),tmod128 n];refine Ev.ite (fun hc => ?_) (fun hc => ?_)
  ·rw [varL_big (by omega)];exact Ev.pos (by omega) (Ev.eq (ih (n / 128) (by omega) _ (by simp;omega)) (by simp))
  ·rw [varL_small (by omega)];exact Ev.pos (by omega) (Ev.done (by rw [Int.emod_eq_of_lt (by omega) (by omega)]))
theorem spec_l01Var_nat (n : Nat) (h : n ≤ 34359738367) : Ev (fun k => spec_l01Var.f k (n : Int)) (varText n) := spec_l01Var_loop n [] (by simp; omega)
theorem spec_l01Var_ev (n : Int) (h0 : 0 ≤ n) (h : n ≤ 34359738367) : Ev (fun k => spec_l01Var.f k n) (varText n.toNat) := by
 obtain ⟨m,rfl⟩:=Int.eq_ofNat_of_zero_le h0;exact spec_l01Var_nat m (by omega)
theorem spec_l02Four_eq (x : Int) : spec_l02Four.f x = some (four x) := rfl
theorem spec_SumMore_bits (s : ByteArray) (i : Nat) (hi : i ≤ 9223372036854775806) (r : Int) : ∀ (d : Nat) (x : Int) (j : Nat), j + d = 8 →
  Ev (fun k => spec_SumMore.l0 k (sumBits d x) s ((i + 1 : Nat) : Int)) r → Ev (fun k => spec_SumMore.l1 k x s (i : Int) (j : Int)) r:=by
 intro d
 induction d with
 | zero =>
  intro x j hj h;refine Ev.step (fun _ => rfl) ?_;simp only [spec_SumMore.l1,wrap64_succ hi];exact Ev.neg (by omega) h
 | succ d ih =>
  intro x j hj h;refine Ev.step (fun _ => rfl) ?_;simp only [spec_SumMore.l1,wrap64_succ (show j ≤ 9223372036854775806 by omega)];refine Ev.pos (by omega) (Ev.ite (fun hc => ih _ (j + 1) (by omega) ?_) (fun hc => ih _ (j + 1) (by omega) ?_))
  ·rw [sumBits,sumBit,if_pos hc] at h;exact h
  ·rw [sumBits,sumBit,if_neg hc] at h;exact h
theorem spec_SumMore_loop (s : ByteArray) (hs : s.size ≤ 9223372036854775806) : ∀ (rest : List Int) (n : Nat) (x : Int), (bytesOf s).drop n = rest →
  Ev (fun k => spec_SumMore.l0 k x s (n : Int)) (sumMore x rest):=by
 intro rest
 induction rest with
 | nil =>
  intro n x h;have:=bytesOf_drop_nil h;refine Ev.step (fun _ => rfl) ?_;simp only [spec_SumMore.l0];exact Ev.neg (by omega) (Ev.done rfl)
 | cons b t ih =>
  intro n x h;obtain ⟨h1,h2,h3,h4,h5⟩:=bytesOf_drop_lt h;refine Ev.step (fun _ => rfl) ?_;simp only [spec_SumMore.l0,h2];exact Ev.pos (by omega) (Ev.pos (by omega) (spec_SumMore_bits s n (by omega) _ 8 _ 0 rfl (ih (n + 1) _ h3)))
theorem spec_SumMore_ev (x : Int) (s : ByteArray) (hs : s.size ≤ 9223372036854775806) : Ev (fun k => spec_SumMore.f k x s) (sumMore x (bytesOf s)) := spec_SumMore_loop s hs _ 0 x rfl
theorem spec_SumOf_ev (s : ByteArray) (hs : s.size ≤ 9223372036854775806) : Ev (fun k => spec_SumOf.f k s) (sumOf s) := Ev.bind (spec_SumMore_ev _ s hs) (Ev.now _)
theorem spec_Frame_ev (s : ByteArray) (hs : s.size ≤ 1152921504606846976) : Ev (fun k => spec_Frame.f k s) (frame s) := by
 unfold spec_Frame.f frame
 refine Ev.call (spec_l01In_eq _ _ _) ?_
 cases hb : inR (s.size : Int) 1 9000
 ·exact Ev.neg (by simp) (Ev.done (by simp))
 ·have hr:=inR_true.1 hb;have hv:=varText_size (show s.size ≤ 34359738367 by omega);have h4:=four_size (sumOf s);refine Ev.pos rfl (Ev.bind (spec_l01Var_nat _ (by omega)) (Ev.bind (spec_SumOf_ev s (by omega)) (Ev.call (spec_l02Four_eq _) ?_)));exact Ev.pos (by omega) (Ev.pos (by rw [size_append];omega) (Ev.done (by simp)))
theorem spec_CommandOk_ev (op s q : Int) (key value old : ByteArray) : Ev (fun k => spec_CommandOk.f k op s q key value old) (cmdOk op s q key value old) := by
 have bad : ∀ r,r = false → Ev (fun k => spec_CommandOk.j0 k true op s q key value old) r:=by
  rintro r rfl;refine Ev.step (fun _ => rfl) ?_;simp only [spec_CommandOk.j0];exact Ev.pos trivial (Ev.now _)
 unfold spec_CommandOk.f cmdOk
 refine Ev.call (spec_l01In_eq _ _ _) ?_
 cases h1 : inR op 1 5
 ·exact Ev.neg (by simp) (bad _ (by simp))
 refine Ev.pos rfl (Ev.call (spec_l01In_eq _ _ _) ?_)
 cases h2 : inR s 0 100000
 ·exact Ev.neg (by simp) (bad _ (by simp))
 refine Ev.pos rfl (Ev.call (spec_l01In_eq _ _ _) ?_)
 cases h3 : inR q 0 100000
 ·exact Ev.neg (by simp) (bad _ (by simp))
 refine Ev.pos rfl (Ev.ite (fun h4 => bad _ ?_) (fun h4 => ?_))
 ·rw [decide_eq_false (show ¬ value.size ≤ 12 by omega)];simp
 rw [decide_eq_true (show value.size ≤ 12 by omega)]
 by_cases h5 : old.size ≤ 12
 ·rw [decide_eq_true h5,decide_eq_false (show ¬ (old.size : Int) > 12 by omega)];refine Ev.step (fun _ => rfl) ?_;simp only [spec_CommandOk.j0,emp_def];refine Ev.neg (by simp) (Ev.ite (fun h6 => Ev.done ?_) (fun h6 => ?_))
  ·subst h6;simp
  ·refine Ev.call (spec_l01In_eq _ _ _) ?_;simp only [if_neg h6]
   cases h7 : inR key.size 1 9
   ·exact Ev.neg (by simp) (Ev.done (by simp))
   ·refine Ev.pos rfl (Ev.ite (fun h8 => ?_) (fun h8 => ?_))
    ·subst h8;refine Ev.step (fun _ => rfl) ?_;simp only [spec_CommandOk.j1,emp_def];refine Ev.pos rfl (Ev.ite (fun h9 => Ev.done ?_) (fun h9 => Ev.done ?_))
     ·simp [(emp_iff _).1 h9]
     ·simp [Bool.eq_false_iff.2 (fun e => h9 ((emp_iff _).2 e))]
    ·refine Ev.step (fun _ => rfl) ?_;simp only [spec_CommandOk.j1,emp_def]
     by_cases h9 : op = 4
     ·subst h9;refine Ev.pos rfl (Ev.ite (fun h9 => Ev.done ?_) (fun h9 => Ev.done ?_))
      ·simp [(emp_iff _).1 h9]
      ·simp [Bool.eq_false_iff.2 (fun e => h9 ((emp_iff _).2 e))]
     ·refine Ev.neg (by simp [h9]) (Ev.ite (fun h10 => Ev.done ?_) (fun h10 => Ev.done ?_))
      ·subst h10;simp
      ·simp [h8,h9,h10]
 ·rw [decide_eq_false h5,decide_eq_true (show (old.size : Int) > 12 by omega)];exact bad _ (by simp)
theorem spec_EntryOk_ev (t d : Int) (s : ByteArray) (hs : s.size ≤ 1048576) : Ev (fun k => spec_EntryOk.f k t d s) (entryOk t d s) := by
 unfold spec_EntryOk.f entryOk
 simp only [emp_def];refine Ev.call (spec_l01In_eq _ _ _) ?_
 cases h1 : inR t 0 100000
 ·exact Ev.neg (by simp) (Ev.done (by simp))
 refine Ev.pos rfl (Ev.ite (fun h => Ev.done (by simp [h])) (fun h => Ev.ite (fun h' => ?_) (fun h' => Ev.ite (fun h2 => Ev.done ?_) (fun h2 => Ev.done (by simp [h,h',h2])))))
 ·refine Ev.bind (spec_ReadConf_ev s hs) (Ev.done ?_);subst h'
  unfold readConf
  cases hc : confOk (bytesOf s) <;> simp
 ·subst h2
  simp
  omega
theorem impl_EntryOk_ev (t d : Int) (s : ByteArray) (hs : s.size ≤ 1048576) : Ev (fun k => impl_EntryOk.f k t d s) (entryOk t d s) := by
 unfold impl_EntryOk.f entryOk
 simp only [emp_def];refine Ev.call (impl_within_eq _ _ _) ?_
 cases h1 : inR t 0 100000
 ·exact Ev.neg (by simp) (Ev.done (by simp))
 refine Ev.pos rfl (Ev.ite (fun h => Ev.done (by simp [h])) (fun h => Ev.ite (fun h' => ?_) (fun h' => Ev.ite (fun h2 => Ev.done ?_) (fun h2 => Ev.done (by simp [h,h',h2])))))
 ·refine Ev.bind (impl_ReadConf_ev s hs) (Ev.done ?_);subst h'
  unfold readConf
  cases hc : confOk (bytesOf s) <;> simp
 ·subst h2
  simp
  omega
theorem spec_LogLast_some (a0 a1 : Int) (l : List S37) (hx : l.length ≤ 1048576) : ∃ r, spec_LogLast.f a0 a1 l = some r := by
 unfold spec_LogLast.f
 by_cases h : (l.length : Int) = 0
 ·rw [if_pos h];exact ⟨_,rfl⟩
 ·rw [if_neg h,wrap64_id (by omega) (by omega),if_pos (by omega),if_pos (by omega)];exact ⟨_,rfl⟩
theorem impl_LogLast_eq (a0 a1 : Int) (l : List S37) : impl_LogLast.f a0 a1 l = spec_LogLast.f a0 a1 l := rfl
theorem spec_l05Short_ev (s : ByteArray) (hs : s.size ≤ 1073741824) : Ev (fun k => spec_l05Short.f k s) (shortText s) := by
 have h:=varText_size (show s.size ≤ 34359738367 by omega);exact Ev.bind (spec_l01Var_nat _ (by omega)) (Ev.pos (by omega) (Ev.now _))
theorem spec_CommandText_ev (op s q : Int) (key value old : ByteArray) : Ev (fun k => spec_CommandText.f k op s q key value old) (cmdText op s q key value old) := by
 unfold spec_CommandText.f cmdText
 refine Ev.bind (spec_CommandOk_ev op s q key value old) ?_
 cases hb : cmdOk op s q key value old
 ·exact Ev.neg (by simp) (Ev.done (by simp))
 obtain ⟨h1,h2,h3,h4,h5⟩:=cmdOk_sizes hb;have s1:=varText_size (show s.toNat ≤ 34359738367 by omega);have s2:=varText_size (show q.toNat ≤ 34359738367 by omega);have s3:=shortText_size (show key.size ≤ 34359738367 by omega);have s4:=shortText_size (show value.size ≤ 34359738367 by omega);have s5:=shortText_size (show old.size ≤ 34359738367 by omega)
 have s6 : (strOfNums [op % 256]).size = 1:=by rw [strOfNums_size];rfl
 refine Ev.pos rfl (Ev.call rfl (Ev.bind (spec_l01Var_ev s (by omega) (by omega)) (Ev.pos (by omega) (Ev.bind (spec_l01Var_ev q (by omega) (by omega)) (Ev.pos (by simp only [size_append];omega) (Ev.bind (spec_l05Short_ev key (by omega)) (Ev.pos (by simp only [size_append];omega) (Ev.bind (spec_l05Short_ev value (by omega)) (Ev.pos (by simp only [size_append];omega) (Ev.bind (spec_l05Short_ev old (by omega)) (Ev.pos (by simp only [size_append];omega) (Ev.done ?_))))))))))))
 simp
theorem spec_EntryText_ev (i t d : Int) (s : ByteArray) (hs : s.size ≤ 1048576) : Ev (fun k => spec_EntryText.f k i t d s) (entryText i t d s) := by
 unfold spec_EntryText.f entryText
 refine Ev.bind (spec_EntryOk_ev t d s hs) ?_
 cases hb : entryOk t d s
 ·refine Ev.neg (by simp) (Ev.step (fun _ => rfl) ?_);simp only [spec_EntryText.j0];exact Ev.pos trivial (Ev.done (by simp))
 refine Ev.pos rfl (Ev.call (spec_l01In_eq _ _ _) (Ev.step (fun _ => rfl) ?_));simp only [spec_EntryText.j0]
 cases hi : inR i 1 100000
 ·exact Ev.pos rfl (Ev.done (by simp))
 have h1:=inR_true.1 hi;have h2:=entryOk_term hb;have s1:=varText_size (show i.toNat ≤ 34359738367 by omega);have s2:=varText_size (show t.toNat ≤ 34359738367 by omega)
 have s3 : (strOfNums [d % 256]).size = 1:=by rw [strOfNums_size];rfl
 have s4 : (⟨#[69]⟩ : ByteArray).size = 1:=rfl;exact Ev.neg (by simp) (Ev.bind (spec_l01Var_ev i (by omega) (by omega)) (Ev.pos (by omega) (Ev.bind (spec_l01Var_ev t (by omega) (by omega)) (Ev.pos (by simp only [size_append];omega) (Ev.call rfl (Ev.pos (by simp only [size_append];omega) (Ev.pos (by simp only [size_append];omega) (Ev.done (by simp)))))))))
theorem spec_LogOk_loop (a0 a1 : Int) (l : List S37) (hx : l.length ≤ 1048576) (hd : ∀ x ∈ l, x.f2.size ≤ 1048576) : ∀ (rest : List S37) (n : Nat) (t : Int), l.drop n = rest →
  Ev (fun k => spec_LogOk.l0 k t (n : Int) a0 a1 l) (entriesOk t rest):=by
 intro rest
 induction rest with
 | nil =>
  intro n t h;have:=drop_nil h;refine Ev.step (fun _ => rfl) ?_;simp only [spec_LogOk.l0];exact Ev.neg (by omega) (Ev.now _)
 | cons x r ih =>
  intro n t h;obtain ⟨h1,-,h3⟩:=drop_cons h;have hm : x ∈ l:=List.mem_of_mem_drop (h ▸ List.mem_cons_self);refine Ev.step (fun _ => rfl) ?_;simp only [spec_LogOk.l0,rdT37_drop h,wrap64_succ (show n ≤ 9223372036854775806 by omega)];refine Ev.pos (by omega) (Ev.pos (by omega) (Ev.bind (spec_EntryOk_ev _ _ _ (hd x hm)) ?_))
  cases hb : entryOk x.f0 x.f1 x.f2
  ·exact Ev.neg (by simp) (Ev.done (by simp [entriesOk,hb]))
  ·refine Ev.pos rfl (Ev.ite (fun hc => Ev.done ?_) (fun hc => Ev.eq (ih (n + 1) _ h3) ?_))
   ·simp only [entriesOk,hb,decide_eq_false (show ¬ t ≤ x.f0 by omega)];simp
   ·simp only [entriesOk,hb,decide_eq_true (show t ≤ x.f0 by omega)];simp
theorem spec_LogOk_ev (a0 a1 : Int) (l : List S37) (hx : l.length ≤ 1048576) (hd : ∀ x ∈ l, x.f2.size ≤ 1048576) : Ev (fun k => spec_LogOk.f k a0 a1 l) (logOk a0 a1 l) := by
 have bad : ∀ r,r = false → Ev (fun k => spec_LogOk.j0 k true a0 a1 l) r:=by
  rintro r rfl;refine Ev.step (fun _ => rfl) ?_;simp only [spec_LogOk.j0];exact Ev.pos trivial (Ev.now _)
 unfold spec_LogOk.f logOk
 refine Ev.call (spec_l01In_eq _ _ _) ?_
 cases h1 : inR a0 0 100000
 ·exact Ev.neg (by simp) (bad _ (by simp))
 refine Ev.pos rfl (Ev.call (spec_l01In_eq _ _ _) ?_)
 cases h2 : inR a1 0 100000
 ·exact Ev.neg (by simp) (bad _ (by simp))
 have b1:=inR_true.1 h1;refine Ev.pos rfl (Ev.ite (fun hc => bad _ ?_) (fun hc => ?_))
 ·rw [decide_eq_false (show ¬ l.length ≤ 120 by omega)];simp
 rw [decide_eq_true (show l.length ≤ 120 by omega),wrap64_id (by omega) (by omega)]
 by_cases hs : a0 + (l.length : Int) ≤ 100000
 ·rw [decide_eq_true hs,decide_eq_false (show ¬ a0 + (l.length : Int) > 100000 by omega)];refine Ev.step (fun _ => rfl) ?_;simp only [spec_LogOk.j0];exact Ev.neg (by simp) (Ev.eq (spec_LogOk_loop a0 a1 l hx hd l 0 a1 rfl) (by simp))
 ·rw [decide_eq_false hs,decide_eq_true (show a0 + (l.length : Int) > 100000 by omega)];exact bad _ (by simp)
theorem impl_LogOk_loop (l : List S37) (hx : l.length ≤ 1048576) (hd : ∀ x ∈ l, x.f2.size ≤ 1048576) : ∀ (rest : List S37) (n : Nat) (t : Int), l.drop n = rest →
  Ev (fun k => impl_LogOk.l0 k t l (l.length : Int) (n : Int)) (entriesOk t rest):=by
 intro rest
 induction rest with
 | nil =>
  intro n t h;have:=drop_nil h;refine Ev.step (fun _ => rfl) ?_;simp only [impl_LogOk.l0];exact Ev.neg (by omega) (Ev.now _)
 | cons x r ih =>
  intro n t h;obtain ⟨h1,-,h3⟩:=drop_cons h;have hm : x ∈ l:=List.mem_of_mem_drop (h ▸ List.mem_cons_self);refine Ev.step (fun _ => rfl) ?_;simp only [impl_LogOk.l0,rdT37_drop h,wrap64_succ (show n ≤ 9223372036854775806 by omega)];refine Ev.pos (by omega) (Ev.pos (by omega) (Ev.pos (by omega) (Ev.bind (impl_EntryOk_ev _ _ _ (hd x hm)) ?_)))
  cases hb : entryOk x.f0 x.f1 x.f2
  ·exact Ev.neg (by simp) (Ev.done (by simp [entriesOk,hb]))
  ·refine Ev.pos rfl (Ev.ite (fun hc => Ev.done ?_) (fun hc => Ev.eq (ih (n + 1) _ h3) ?_))
   ·simp only [entriesOk,hb,decide_eq_false (show ¬ t ≤ x.f0 by omega)];simp
   ·simp only [entriesOk,hb,decide_eq_true (show t ≤ x.f0 by omega)];simp
theorem impl_LogOk_ev (a0 a1 : Int) (l : List S37) (hx : l.length ≤ 1048576) (hd : ∀ x ∈ l, x.f2.size ≤ 1048576) : Ev (fun k => impl_LogOk.f k a0 a1 l) (logOk a0 a1 l) := by
 have bad : ∀ r,r = false → Ev (fun k => impl_LogOk.j0 k true a0 a1 l) r:=by
  rintro r rfl;refine Ev.step (fun _ => rfl) ?_;simp only [impl_LogOk.j0];exact Ev.pos trivial (Ev.now _)
 unfold impl_LogOk.f logOk
 refine Ev.call (impl_within_eq _ _ _) ?_
 cases h1 : inR a0 0 100000
 ·exact Ev.neg (by simp) (bad _ (by simp))
 refine Ev.pos rfl (Ev.call (impl_within_eq _ _ _) ?_)
 cases h2 : inR a1 0 100000
 ·exact Ev.neg (by simp) (bad _ (by simp))
 have b1:=inR_true.1 h1;refine Ev.pos rfl (Ev.ite (fun hc => bad _ ?_) (fun hc => ?_))
 ·rw [decide_eq_false (show ¬ l.length ≤ 120 by omega)];simp
 rw [decide_eq_true (show l.length ≤ 120 by omega),wrap64_id (by omega) (by omega)]
 by_cases hs : a0 + (l.length : Int) ≤ 100000
 ·rw [decide_eq_true hs,decide_eq_false (show ¬ a0 + (l.length : Int) > 100000 by omega)];refine Ev.step (fun _ => rfl) ?_;simp only [impl_LogOk.j0];exact Ev.neg (by simp) (Ev.eq (impl_LogOk_loop l hx hd l 0 a1 rfl) (by simp))
 ·rw [decide_eq_false hs,decide_eq_true (show a0 + (l.length : Int) > 100000 by omega)];exact bad _ (by simp)
def To {α : Type} (f : Nat → Option α) (P : α → Prop) : Prop := ∃ r, Ev f r ∧ P r
theorem To.ev {α : Type} {f : Nat → Option α} {P : α → Prop} {a : α} (h : Ev f a) (p : P a) : To f P := ⟨a, h, p⟩
theorem To.mono {α : Type} {f : Nat → Option α} {P Q : α → Prop} (h : To f P) (k : ∀ a, P a → Q a) : To f Q := by
 obtain ⟨a,e,p⟩:=h;exact ⟨a,e,k a p⟩
theorem To.bind {α β : Type} {f : Nat → Option α} {g : Nat → α → Option β} {P : α → Prop} {Q : β → Prop} (h : To f P) (k : ∀ a, P a → To (fun n => g n a) Q) : To (fun n => (f n).bind (g n)) Q := by
 obtain ⟨a,e,p⟩:=h;obtain ⟨b,e',q⟩:=k a p;exact ⟨b,Ev.bind e e',q⟩
theorem To.pos {α : Type} {c : Prop} [Decidable c] {f g : Nat → Option α} {P : α → Prop} (h : c) (k : To f P) : To (fun n => if c then f n else g n) P := by
 simp only [if_pos h];exact k
theorem To.neg {α : Type} {c : Prop} [Decidable c] {f g : Nat → Option α} {P : α → Prop} (h : ¬ c) (k : To g P) : To (fun n => if c then f n else g n) P := by
 simp only [if_neg h];exact k
theorem To.ite {α : Type} {c : Prop} [Decidable c] {f g : Nat → Option α} {P : α → Prop} (h : c → To f P) (k : ¬ c → To g P) : To (fun n => if c then f n else g n) P := by
 by_cases hc : c
 ·exact To.pos hc (h hc)
 ·exact To.neg hc (k hc)
theorem To.now {α : Type} {P : α → Prop} {a : α} (p : P a) : To (fun _ => some a) P := ⟨a, Ev.now _, p⟩
theorem To.step {α : Type} {f g : Nat → Option α} {P : α → Prop} (h : ∀ n, f (n + 1) = g n) (k : To g P) : To f P := by
 obtain ⟨a,e,p⟩:=k;exact ⟨a,Ev.step h e,p⟩
theorem To.call {α β : Type} {o : Option α} {g : Nat → α → Option β} {P : α → Prop} {Q : β → Prop} (h : ∃ a, o = some a ∧ P a) (k : ∀ a, P a → To (fun n => g n a) Q) : To (fun n => o.bind (g n)) Q := by
 obtain ⟨a,rfl,p⟩:=h;exact k a p
def Cur (l : List Int) (i : Int) : Prop := 0 ≤ i ∧ i ≤ l.length
theorem Cur.zero (l : List Int) : Cur l 0 := ⟨Int.le_refl _, by omega⟩
theorem and255 (x : Int) : 0 ≤ Go.bits .and .i64 x 255 ∧ Go.bits .and .i64 x 255 ≤ 255 := by
 have h : (BitVec.ofInt 64 x &&& BitVec.ofInt 64 255).toNat ≤ 255:=by
  rw [BitVec.toNat_and];exact Nat.le_trans Nat.and_le_right (by decide)
 have e : Go.bits .and .i64 x 255 = (((BitVec.ofInt 64 x &&& BitVec.ofInt 64 255).toNat : Nat) : Int):=by
  show IntKind.i64.wrap (((BitVec.ofInt 64 x &&& BitVec.ofInt 64 255).toNat : Nat) : Int) = _;rw [IntKind.wrap_i64]
  omega
 rw [e];omega
theorem rd_mem {xs : List Int} {b : Int} (h0 : 0 ≤ b) (h1 : b < xs.length) : rd xs b ∈ xs := by
 obtain ⟨n,rfl⟩:=Int.eq_ofNat_of_zero_le h0;rw [rd_nat,List.getD_eq_getElem?_getD,List.getElem?_eq_getElem (by omega)]
 simp
theorem rdOf_mem {α : Type} {z : α} {xs : List α} {b : Int} (h0 : 0 ≤ b) (h1 : b < xs.length) : rdOf z xs b ∈ xs := by
 obtain ⟨n,rfl⟩:=Int.eq_ofNat_of_zero_le h0;rw [rdOf,Int.toNat_natCast,List.getD_eq_getElem?_getD,List.getElem?_eq_getElem (by omega)]
 simp
theorem spec_l01New_loop (l : List Int) (hl : l.length ≤ 140737488351232) : ∀ (m n : Nat) (y : Int), l.length - n ≤ m → n ≤ l.length → To (fun k => spec_l01New.l0 k l y (n : Int)) (fun r => ∃ z, r = (l, 0, z)) := by
 intro m
 induction m with
 | zero =>
  intro n y h h1;refine To.step (fun _ => rfl) ?_;simp only [spec_l01New.l0];exact To.neg (by omega) (To.now ⟨_,rfl⟩)
 | succ m ih =>
  intro n y h h1;refine To.step (fun _ => rfl) ?_;simp only [spec_l01New.l0,wrap64_succ (show n ≤ 9223372036854775806 by omega)];exact To.ite (fun h2 => To.ite (fun h3 => To.pos (by omega) (ih (n + 1) _ (by omega) (by omega))) (fun _ => To.now ⟨_,rfl⟩)) (fun _ => To.now ⟨_,rfl⟩)
theorem spec_l01New_to (l : List Int) (hl : l.length ≤ 140737488351232) : To (fun k => spec_l01New.f k l) (fun r => ∃ z, r = (l, 0, z)) :=
 spec_l01New_loop l hl l.length 0 _ (by omega) (by omega)
theorem spec_l01Byte_to {l : List Int} (hl : l.length ≤ 140737488351232) {i : Int} (y : Int) (h : Cur l i) : To (fun _ => spec_l01Byte.f l i y) (fun r => 0 ≤ r.1 ∧ r.1 ≤ 255 ∧ Cur l r.2.1) := by
 unfold spec_l01Byte.f
 refine To.ite (fun c => To.pos h.1 (To.now ⟨(and255 _).1,(and255 _).2,?_⟩)) (fun c => To.now ⟨(and255 _).1,(and255 _).2,h⟩);have:=h.1;simp only [Cur];rw [wrap64_id (by omega) (by omega)]
 omega
theorem spec_l01Below_to {l : List Int} (hl : l.length ≤ 140737488351232) {i : Int} (y : Int) (h : Cur l i) (n : Int) : To (fun _ => spec_l01Below.f l i y n) (fun r => 0 ≤ r.1 ∧ (0 < n → r.1 < n) ∧ Cur l r.2.1) := by
 unfold spec_l01Below.f
 refine To.ite (fun c => To.now ⟨Int.le_refl _,fun c' => by omega,h⟩) (fun c => To.ite (fun _ => ?_) (fun _ => ?_))
 ·exact To.bind (spec_l01Byte_to hl y h) (fun r p => To.neg (by omega) (To.now ⟨Int.tmod_nonneg _ p.1,fun c => Int.tmod_lt_of_pos _ c,p.2.2⟩))
 ·refine To.bind (spec_l01Byte_to hl y h) (fun r1 p1 => To.bind (spec_l01Byte_to hl _ p1.2.2) (fun r2 p2 => To.bind (spec_l01Byte_to hl _ p2.2.2) (fun r3 p3 => To.bind (spec_l01Byte_to hl _ p3.2.2) (fun r4 p4 => To.neg (by omega) (To.now ⟨Int.tmod_nonneg _ ?_,fun c => Int.tmod_lt_of_pos _ c,p4.2.2⟩)))));have q1:=p1.1;have q2:=p2.1;have q3:=p3.1;have q4:=p4.1;have s1:=p1.2.1;have s2:=p2.2.1;have s3:=p3.2.1;have s4:=p4.2.1;generalize r1.1 = a at *;generalize r2.1 = b at *;generalize r3.1 = c at *;generalize r4.1 = d at *;rw [wrap64_id (n:=a * 16777216) (by omega) (by omega),wrap64_id (n:=b * 65536) (by omega) (by omega),wrap64_id (n:=c * 256) (by omega) (by omega),wrap64_id (n:=a * 16777216 + b * 65536) (by omega) (by omega),wrap64_id (n:=a * 16777216 + b * 65536 + c * 256) (by omega) (by omega),wrap64_id (by omega) (by omega)]
  omega
theorem spec_l01Once_to {l : List Int} (hl : l.length ≤ 140737488351232) {i : Int} (y : Int) (h : Cur l i) (n : Int) : To (fun _ => spec_l01Once.f l i y n) (fun r => Cur l r.2.1) := by
 unfold spec_l01Once.f
 exact To.bind (spec_l01Below_to hl y h n) (fun r p => To.now p.2.2)
theorem spec_l01PickInt_to {l : List Int} (hl : l.length ≤ 140737488351232) {i : Int} (y : Int) (h : Cur l i) (xs : List Int) (hx : 0 < xs.length) : To (fun _ => spec_l01PickInt.f l i y xs) (fun r => r.1 ∈ xs ∧ Cur l r.2.1) := by
 unfold spec_l01PickInt.f
 exact To.bind (spec_l01Below_to hl y h _) (fun r p => To.pos p.1 (To.pos (p.2.1 (by omega)) (To.now ⟨rd_mem p.1 (p.2.1 (by omega)),p.2.2⟩)))
theorem spec_l01Pick_to {l : List Int} (hl : l.length ≤ 140737488351232) {i : Int} (y : Int) (h : Cur l i) (xs : List ByteArray) (hx : 0 < xs.length) : To (fun _ => spec_l01Pick.f l i y xs) (fun r => r.1 ∈ xs ∧ Cur l r.2.1) := by
 unfold spec_l01Pick.f
 exact To.bind (spec_l01Below_to hl y h _) (fun r p => To.pos p.1 (To.pos (p.2.1 (by omega)) (To.now ⟨rdOf_mem p.1 (p.2.1 (by omega)),p.2.2⟩)))
theorem spec_l15Right_to {l : List Int} (hl : l.length ≤ 140737488351232) {i : Int} (y : Int) (h : Cur l i) : To (fun _ => spec_l15Right.f l i y) (fun r => Cur l r.2.2.2.2.2.2.1) := by
 unfold spec_l15Right.f
 refine To.bind (spec_l01Below_to hl y h 5) (fun r1 p1 => To.ite (fun _ => To.now p1.2.2) (fun _ => ?_));refine To.bind (spec_l01Below_to hl _ p1.2.2 4) (fun r2 p2 => To.bind (spec_l01Below_to hl _ p2.2.2 3) (fun r3 p3 => To.bind (spec_l01Pick_to hl _ p3.2.2 _ (by simp)) (fun r4 p4 => ?_)));refine To.ite (fun _ => To.bind (spec_l01Pick_to hl _ p4.2 _ (by simp)) (fun r5 p5 => To.now p5.2)) (fun _ => To.ite (fun _ => ?_) (fun _ => To.now p4.2));exact To.bind (spec_l01Pick_to hl _ p4.2 _ (by simp)) (fun r5 p5 => To.bind (spec_l01Pick_to hl _ p5.2 _ (by simp)) (fun r6 p6 => To.now p6.2))
theorem spec_l07Conf_loop {l : List Int} (hl : l.length ≤ 140737488351232) : ∀ (m n : Nat) (acc : List Int) (i y : Int), 5 - n ≤ m → 1 ≤ n → n ≤ 5 → acc.length < n → Cur l i →
  To (fun k => spec_l07Conf.l0 k acc (n : Int) l i y) (fun r => r.1.length ≤ 4 ∧ Cur l r.2.1):=by
 intro m
 induction m with
 | zero =>
  intro n acc i y h1 h2 h3 h4 h;refine To.step (fun _ => rfl) ?_;simp only [spec_l07Conf.l0];refine To.neg (by omega) (To.ite (fun c => To.pos (by omega) (To.now ⟨?_,h⟩)) (fun c => To.now ⟨?_,h⟩))
  ·simp only [List.length_append,List.length_singleton];omega
  ·show acc.length ≤ 4;omega
 | succ m ih =>
  intro n acc i y h1 h2 h3 h4 h;refine To.step (fun _ => rfl) ?_;simp only [spec_l07Conf.l0,wrap64_succ (show n ≤ 9223372036854775806 by omega)];refine To.ite (fun c => To.bind (spec_l01Once_to hl y h 2) (fun r p => To.ite (fun _ => To.pos (by omega) ?_) (fun _ => ?_))) (fun c => To.ite (fun c => To.pos (by omega) (To.now ⟨?_,h⟩)) (fun c => To.now ⟨?_,h⟩))
  ·exact ih (n + 1) _ _ _ (by omega) (by omega) (by omega) (by simp only [List.length_append,List.length_singleton];omega) p
  ·exact ih (n + 1) _ _ _ (by omega) (by omega) (by omega) (by omega) p
  ·simp only [List.length_append,List.length_singleton];omega
  ·show acc.length ≤ 4;omega
theorem spec_l07Conf_to {l : List Int} (hl : l.length ≤ 140737488351232) {i : Int} (y : Int) (h : Cur l i) : To (fun k => spec_l07Conf.f k l i y) (fun r => r.1.length ≤ 4 ∧ Cur l r.2.1) :=
 spec_l07Conf_loop hl 4 1 [] i y (by omega) (by omega) (by omega) (by simp) h
theorem spec_l11Right_to {l : List Int} (hl : l.length ≤ 140737488351232) {i : Int} (y : Int) (h : Cur l i) (a : Int) : To (fun k => spec_l11Right.f k l i y a) (fun r => r.2.2.1.size ≤ 1000 ∧ Cur l r.2.2.2.1) := by
 unfold spec_l11Right.f
 refine To.bind (spec_l01PickInt_to hl y h _ (by simp)) (fun r p => To.ite (fun _ => ?_) (fun _ => To.ite (fun _ => ?_) (fun _ => To.now ⟨Nat.zero_le _,p.2⟩)))
 ·refine To.bind (spec_l07Conf_to hl _ p.2) (fun r2 p2 => To.bind (To.ev (P:=fun t => t.1.size ≤ 1000) (spec_ConfText_ev r2.1 (by omega)) ?_) (fun r3 p3 => To.now ⟨p3,p2.2⟩));have:=confText_size r2.1
  omega
 ·exact To.bind (spec_l15Right_to hl _ p.2) (fun r2 p2 => To.bind (To.ev (P:=fun t => t.1.size ≤ 1000) (spec_CommandText_ev _ _ _ _ _ _) (cmdText_size _ _ _ _ _ _)) (fun r3 p3 => To.now ⟨p3,p2⟩))
def logHead (s t : Int) : ByteArray := (frame ((⟨#[83]⟩ : ByteArray) ++ varText s.toNat ++ varText t.toNat)).1
theorem spec_l12Head_ev (s t : Int) (l : List S37) (hs : 0 ≤ s ∧ s ≤ 100000) (ht : 0 ≤ t ∧ t ≤ 100000) : Ev (fun k => spec_l12Head.f k s t l) (logHead s t) := by
 unfold spec_l12Head.f
 have s1:=varText_size (show s.toNat ≤ 34359738367 by omega);have s2:=varText_size (show t.toNat ≤ 34359738367 by omega);have s3 : (⟨#[83]⟩ : ByteArray).size = 1:=rfl;exact Ev.bind (spec_l01Var_ev s (by omega) (by omega)) (Ev.pos (by omega) (Ev.bind (spec_l01Var_ev t (by omega) (by omega)) (Ev.pos (by rw [size_append];omega) (Ev.bind (spec_Frame_ev _ (by simp only [size_append];omega)) (Ev.now _)))))
theorem frame_le (s : ByteArray) : (frame s).1.size ≤ 9009 := by
 unfold frame
 split
 ·rename_i h
  have:=inR_true.1 h;have hv:=varText_size (show s.size ≤ 34359738367 by omega);have h4:=four_size (sumOf s);simp only [size_append];omega
 ·exact Nat.zero_le _
def logFrames : List Int → Int → List S37 → List Int
 | acc,_,[] => acc
 | acc,i,x :: t => logFrames (acc ++ bytesOf (frame (entryText i x.f0 x.f1 x.f2).1).1) (i + 1) t
theorem logFrames_length : ∀ (l : List S37) (acc : List Int) (i : Int), (logFrames acc i l).length ≤ acc.length + 9009 * l.length
 | [],acc,i => by simp [logFrames]
 | x :: t,acc,i => by
  rw [logFrames];have h:=logFrames_length t (acc ++ bytesOf (frame (entryText i x.f0 x.f1 x.f2).1).1) (i + 1);have h2:=frame_le (entryText i x.f0 x.f1 x.f2).1;rw [List.length_append,bytesOf_length] at h;rw [List.length_cons]
  omega
theorem spec_l12Frames_loop (s t : Int) (hs : 0 ≤ s ∧ s ≤ 100000) (l : List S37) (hl : l.length ≤ 1048576) (hd : ∀ x ∈ l, x.f2.size ≤ 1048576) : ∀ (rest : List S37) (n : Nat) (acc : List Int), l.drop n = rest → acc.length + 9009 * rest.length ≤ 100000000000 →
  Ev (fun k => spec_l12Frames.l0 k acc (n : Int) s t l) (strOfNums (logFrames acc (s + 1 + (n : Int)) rest)):=by
 intro rest
 induction rest with
 | nil =>
  intro n acc h ha;have:=drop_nil h;refine Ev.step (fun _ => rfl) ?_;simp only [spec_l12Frames.l0];exact Ev.neg (by omega) (Ev.done (by rw [logFrames]))
 | cons x r ih =>
  intro n acc h ha;obtain ⟨h1,-,h3⟩:=drop_cons h;have hm : x ∈ l:=List.mem_of_mem_drop (h ▸ List.mem_cons_self);rw [List.length_cons] at ha;have hf:=frame_le (entryText (s + 1 + (n : Int)) x.f0 x.f1 x.f2).1;have he:=entryText_size (s + 1 + (n : Int)) x.f0 x.f1 x.f2;have hx:=hd x hm;have w1 : wrap64 (s + 1) = s + 1:=wrap64_id (by omega) (by omega);have w2 : wrap64 (s + 1 + (n : Int)) = s + 1 + (n : Int):=wrap64_id (by omega) (by omega);have ih:=ih (n + 1) (acc ++ bytesOf (frame (entryText (s + 1 + (n : Int)) x.f0 x.f1 x.f2).1).1) h3 (by rw [List.length_append,bytesOf_length];omega);refine Ev.step (fun _ => rfl) ?_;simp only [spec_l12Frames.l0,rdT37_drop h,wrap64_succ (show n ≤ 9223372036854775806 by omega),w1,w2];refine Ev.pos (by omega) (Ev.pos (by omega) (Ev.bind (spec_EntryText_ev _ _ _ _ hx) (Ev.bind (spec_Frame_ev _ (by omega)) (Ev.pos (by omega) (Ev.eq ih ?_)))));rw [logFrames,show s + 1 + ((n + 1 : Nat) : Int) = s + 1 + (n : Int) + 1 by omega]
def logFile (s t : Int) (l : List S37) : ByteArray × Bool := if logOk s t l = true then (if (logHead s t ++ strOfNums (logFrames [] (s + 1) l)).size > 20000 then (⟨#[]⟩, false) else (logHead s t ++ strOfNums (logFrames [] (s + 1) l), true)) else (⟨#[]⟩, false)
theorem spec_LogFile_ev (s t : Int) (l : List S37) (hl : l.length ≤ 1048576) (hd : ∀ x ∈ l, x.f2.size ≤ 1048576) : Ev (fun k => spec_LogFile.f k s t l) (logFile s t l) := by
 unfold spec_LogFile.f logFile
 refine Ev.bind (spec_LogOk_ev s t l hl hd) ?_
 cases hk : logOk s t l
 ·exact Ev.neg (by simp) (Ev.done (by simp))
 obtain ⟨b1,b2,b3,b4⟩:=logOk_bounds hk;have z1 : (logHead s t).size ≤ 9009:=frame_le _;have z2:=logFrames_length l [] (s + 1);have z3 : (strOfNums (logFrames [] (s + 1) l)).size = (logFrames [] (s + 1) l).length:=strOfNums_size _;have e:=spec_l12Frames_loop s t b1 l hl hd l 0 [] rfl (by simp;omega);rw [show s + 1 + ((0 : Nat) : Int) = s + 1 by omega] at e;rw [List.length_nil] at z2;refine Ev.pos rfl (Ev.bind (spec_l12Head_ev s t l b1 b2) (Ev.bind e (Ev.pos (by omega) ?_)));refine Ev.ite (fun hc => Ev.done ?_) (fun hc => Ev.done ?_)
 ·rw [if_pos rfl,if_pos (show _ > 20000 by omega)]
 ·rw [if_pos rfl,if_neg (show ¬ _ > 20000 by omega)]
def logTerm (s t : Int) (l : List S37) (a : Int) : Int := if a = s then t else if s < a ∧ a ≤ s + (l.length : Int) then (rd_T37 l (a - s - 1)).f0 else -1
theorem spec_LogTerm_eq (s t : Int) (l : List S37) (a : Int) (hs : 0 ≤ s ∧ s ≤ 100000) (hl : l.length ≤ 120) : spec_LogTerm.f s t l a = some (logTerm s t l a) := by
 unfold spec_LogTerm.f logTerm spec_l12Last.f
 by_cases h1 : a = s
 ·rw [if_pos h1,if_pos h1]
 rw [if_neg h1,if_neg h1]
 by_cases h2 : a < s
 ·rw [if_pos h2,if_neg (by omega)]
 rw [if_neg h2];have w1 : wrap64 (s + (l.length : Int)) = s + (l.length : Int):=wrap64_id (by omega) (by omega);simp only [Option.bind_some,w1]
 by_cases h3 : a > s + (l.length : Int)
 ·rw [if_pos h3,if_neg (by omega)]
 have w2 : wrap64 (a - s) = a - s:=wrap64_id (by omega) (by omega);have w3 : wrap64 (a - s - 1) = a - s - 1:=wrap64_id (by omega) (by omega);rw [if_neg h3,w2,w3,if_pos (by omega),if_pos (by omega),if_pos (by omega)]
theorem impl_LogTerm_eq (s t : Int) (l : List S37) (a : Int) (hs : 0 ≤ s ∧ s ≤ 100000) (hl : l.length ≤ 120) (ha : a ≤ 9223372036854775807) : impl_LogTerm.f s t l a = some (logTerm s t l a) := by
 unfold impl_LogTerm.f logTerm impl_hasEntry.f
 by_cases h1 : a = s
 ·rw [if_pos h1,if_pos h1]
 rw [if_neg h1,if_neg h1]
 by_cases h2 : a > s
 ·have w2 : wrap64 (a - s) = a - s:=wrap64_id (by omega) (by omega);have w3 : wrap64 (a - s - 1) = a - s - 1:=wrap64_id (by omega) (by omega);rw [if_pos h2,w2,impl_within_eq];simp only [Option.bind_some,w3]
  cases h4 : inR (a - s) 1 (l.length : Int)
  ·have:=inR_false.1 h4;rw [if_neg (by simp),if_neg (by omega)]
  ·have:=inR_true.1 h4;rw [if_pos rfl,if_pos (by omega),if_pos (by omega),if_pos (by omega)]
 ·rw [if_neg h2];simp only [Option.bind_some];rw [if_neg (by simp),if_neg (by omega)]
def logBehind (s t : Int) (l : List S37) (a b : Int) : Int × Int × List S37 :=
 if (logOk s t l && (inR a s (s + (l.length : Int)) && decide (logTerm s t l a = b))) = true then (a,b,l.drop (a - s).toNat) else (a,b,[])
theorem spec_LogBehind_ev (s t : Int) (l : List S37) (a b : Int) (hl : l.length ≤ 1048576) (hd : ∀ x ∈ l, x.f2.size ≤ 1048576) : Ev (fun k => spec_LogBehind.f k s t l a b) (logBehind s t l a b) := by
 unfold spec_LogBehind.f logBehind
 refine Ev.bind (spec_LogOk_ev s t l hl hd) ?_
 cases hk : logOk s t l
 ·exact Ev.neg (by simp) (Ev.done (by simp))
 obtain ⟨b1,b2,b3,b4⟩:=logOk_bounds hk;have w1 : wrap64 (s + (l.length : Int)) = s + (l.length : Int):=wrap64_id (by omega) (by omega);refine Ev.pos rfl (Ev.call (a:=s + (l.length : Int)) (by rw [spec_l12Last.f,w1]) (Ev.call (spec_l01In_eq _ _ _) ?_))
 cases h1 : inR a s (s + (l.length : Int))
 ·exact Ev.neg (by simp) (Ev.done (by simp))
 have c1:=inR_true.1 h1;have w2 : wrap64 (a - s) = a - s:=wrap64_id (by omega) (by omega);refine Ev.pos rfl (Ev.call (spec_LogTerm_eq s t l a b1 b3) (Ev.ite (fun h2 => ?_) (fun h2 => Ev.done ?_)))
 ·rw [w2];refine Ev.call rfl (Ev.pos (by omega) (Ev.pos (by omega) (Ev.call rfl (Ev.pos (by simp;omega) (Ev.done ?_)))));rw [if_pos (by simp [h2])];simp
 ·rw [if_neg (by simp [h2])]
theorem impl_LogBehind_ev (s t : Int) (l : List S37) (a b : Int) (hl : l.length ≤ 1048576) (hd : ∀ x ∈ l, x.f2.size ≤ 1048576) (ha : a ≤ 9223372036854775807) : Ev (fun k => impl_LogBehind.f k s t l a b) (logBehind s t l a b) := by
 unfold impl_LogBehind.f logBehind
 refine Ev.bind (impl_LogOk_ev s t l hl hd) ?_
 cases hk : logOk s t l
 ·exact Ev.neg (by simp) (Ev.done (by simp))
 obtain ⟨b1,b2,b3,b4⟩:=logOk_bounds hk;have w1 : wrap64 (s + (l.length : Int)) = s + (l.length : Int):=wrap64_id (by omega) (by omega);refine Ev.pos rfl (Ev.call (impl_LogTerm_eq s t l a b1 b3 ha) (Ev.ite (fun h2 => ?_) (fun h2 => Ev.done ?_)))
 ·refine Ev.call (a:=s + (l.length : Int)) (by rw [impl_last.f,w1]) (Ev.call (impl_within_eq _ _ _) ?_)
  cases h1 : inR a s (s + (l.length : Int))
  ·exact Ev.neg (by simp) (Ev.done (by simp))
  have c1:=inR_true.1 h1;have w2 : wrap64 (a - s) = a - s:=wrap64_id (by omega) (by omega);rw [w2];refine Ev.pos rfl (Ev.pos (by omega) (Ev.pos (by omega) (Ev.call rfl (Ev.pos (by simp;omega) (Ev.done ?_)))));rw [if_pos (by simp [h2])];simp
 ·rw [if_neg (by simp [h2])]
theorem rise_snoc {lo hi : Int} : ∀ {l : List Int} {p : Option Int} {x : Int}, rise lo hi p l = true → inR x lo hi = true → (∀ y ∈ l, y < x) → (∀ q, p = some q → q < x) → rise lo hi p (l ++ [x]) = true
 | [],none,x,_,hx,_,_ => by simp [rise,hx]
 | [],some q,x,_,hx,_,hp => by simp [rise,hx,hp q rfl]
 | y :: t,none,x,h,hx,hl,hp => by
  simp only [rise,Bool.and_eq_true] at h;simp only [List.cons_append,rise,Bool.and_eq_true];exact ⟨h.1,rise_snoc h.2 hx (fun z hz => hl z (List.mem_cons_of_mem _ hz)) (fun q hq => by injection hq with hq;subst hq;exact hl _ List.mem_cons_self)⟩
 | y :: t,some q,x,h,hx,hl,hp => by
  simp only [rise,Bool.and_eq_true] at h;simp only [List.cons_append,rise,Bool.and_eq_true];exact ⟨h.1,h.2.1,rise_snoc h.2.2 hx (fun z hz => hl z (List.mem_cons_of_mem _ hz)) (fun q hq => by injection hq with hq;subst hq;exact hl _ List.mem_cons_self)⟩
theorem spec_l07Conf_right {l : List Int} (hl : l.length ≤ 140737488351232) : ∀ (m n : Nat) (acc : List Int) (i y : Int), 5 - n ≤ m → 1 ≤ n → n ≤ 5 → acc.length < n → rise 1 4 none acc = true → (∀ z ∈ acc, z < (n : Int)) → Cur l i →
  To (fun k => spec_l07Conf.l0 k acc (n : Int) l i y) (fun r => confOk r.1 = true ∧ Cur l r.2.1):=by
 have fin : ∀ (acc : List Int) (i y : Int),acc.length ≤ 4 → rise 1 4 none acc = true → Cur l i → To (fun _ => if (acc.length : Int) = 0 then (if acc.length < 17592186044416 then some (acc ++ [1],i,y) else none) else some (acc,i,y)) (fun r => confOk r.1 = true ∧ Cur l r.2.1):=by
  intro acc i y h4 hr h;refine To.ite (fun c => To.pos (by omega) (To.now ⟨?_,h⟩)) (fun c => To.now ⟨?_,h⟩)
  ·obtain rfl:=List.eq_nil_of_length_eq_zero (show acc.length = 0 by omega);rfl
  ·simp only [confOk,Bool.and_eq_true];exact ⟨inR_true.2 ⟨by omega,by omega⟩,hr⟩
 intro m
 induction m with
 | zero =>
  intro n acc i y h1 h2 h3 h4 hr _ h;refine To.step (fun _ => rfl) ?_;simp only [spec_l07Conf.l0];exact To.neg (by omega) (fin acc i y (by omega) hr h)
 | succ m ih =>
  intro n acc i y h1 h2 h3 h4 hr hb h;refine To.step (fun _ => rfl) ?_;simp only [spec_l07Conf.l0,wrap64_succ (show n ≤ 9223372036854775806 by omega)];refine To.ite (fun c => To.bind (spec_l01Once_to hl y h 2) (fun r p => To.ite (fun _ => To.pos (by omega) ?_) (fun _ => ?_))) (fun c => fin acc i y (by omega) hr h)
  ·refine ih (n + 1) _ _ _ (by omega) (by omega) (by omega) (by simp only [List.length_append,List.length_singleton];omega) (rise_snoc hr (inR_true.2 ⟨by omega,by omega⟩) hb (fun q hq => by cases hq)) ?_ p;intro z hz
   rcases List.mem_append.1 hz with hz|hz
   ·have:=hb z hz;omega
   ·rw [List.mem_singleton] at hz;omega
  ·exact ih (n + 1) _ _ _ (by omega) (by omega) (by omega) (by omega) hr (fun z hz => by have:=hb z hz;omega) p
theorem spec_l07Conf_rto {l : List Int} (hl : l.length ≤ 140737488351232) {i : Int} (y : Int) (h : Cur l i) : To (fun k => spec_l07Conf.f k l i y) (fun r => confOk r.1 = true ∧ Cur l r.2.1) :=
 spec_l07Conf_right hl 4 1 [] i y (by omega) (by omega) (by omega) (by simp) rfl (by simp) h
theorem cmdText_120 (op s q : Int) (k v o : ByteArray) : (cmdText op s q k v o).1.size ≤ 120 := by
 unfold cmdText
 cases hb : cmdOk op s q k v o
 ·rw [if_neg (by simp)];exact Nat.zero_le _
 obtain ⟨h1,h2,h3,h4,h5⟩:=cmdOk_sizes hb;have s1:=varText_size (show s.toNat ≤ 34359738367 by omega);have s2:=varText_size (show q.toNat ≤ 34359738367 by omega);have s3:=shortText_size (show k.size ≤ 34359738367 by omega);have s4:=shortText_size (show v.size ≤ 34359738367 by omega);have s5:=shortText_size (show o.size ≤ 34359738367 by omega)
 have s6 : (strOfNums [op % 256]).size = 1:=by rw [strOfNums_size];rfl
 rw [if_pos rfl];simp only [size_append]
 omega
theorem confText_right {c : List Int} (h : confOk c = true) : confOk (bytesOf (confText c).1) = true := by
 have h2:=(confText_back h).2
 unfold readConf at h2
 by_cases hc : confOk (bytesOf (confText c).1) = true
 ·exact hc
 ·rw [if_neg hc] at h2;simp at h2
theorem entryOk_size {t k : Int} {d : ByteArray} (h : entryOk t k d = true) : d.size ≤ 120 := by
 unfold entryOk at h
 simp only [Bool.and_eq_true] at h;have h2:=h.2
 by_cases k1 : k = 1
 ·rw [if_pos k1] at h2;have:=emp_true.1 h2;omega
 rw [if_neg k1] at h2
 by_cases k2 : k = 2
 ·rw [if_pos k2] at h2;have:=confOk_len h2;rw [bytesOf_length] at this;omega
 rw [if_neg k2] at h2
 by_cases k3 : k = 3
 ·rw [if_pos k3] at h2;exact of_decide_eq_true h2
 ·rw [if_neg k3] at h2;cases h2
theorem spec_l11Right_right {l : List Int} (hl : l.length ≤ 140737488351232) {i : Int} (y : Int) (h : Cur l i) (a : Int) (ha : 0 ≤ a ∧ a ≤ 100000) : To (fun k => spec_l11Right.f k l i y a) (fun r => r.1 = a ∧ entryOk r.1 r.2.1 r.2.2.1 = true ∧ Cur l r.2.2.2.1) := by
 unfold spec_l11Right.f
 have hi : inR a 0 100000 = true:=inR_true.2 ha;refine To.bind (spec_l01PickInt_to hl y h _ (by simp)) (fun r p => To.ite (fun h2 => ?_) (fun h2 => To.ite (fun h3 => ?_) (fun h3 => To.now ⟨rfl,?_,p.2⟩)))
 ·refine To.bind (spec_l07Conf_rto hl _ p.2) (fun r2 p2 => To.bind (To.ev (P:=fun t => confOk (bytesOf t.1) = true) (spec_ConfText_ev r2.1 (by have:=confOk_len p2.1;omega)) ?_) (fun r3 p3 => To.now ⟨rfl,?_,p2.2⟩))
  ·exact confText_right p2.1
  show entryOk a r.1 r3.1 = true
  unfold entryOk
  rw [hi,h2,if_neg (by decide),if_pos rfl,p3];rfl
 ·refine To.bind (spec_l15Right_to hl _ p.2) (fun r2 p2 => To.bind (To.ev (P:=fun t => t.1.size ≤ 120) (spec_CommandText_ev _ _ _ _ _ _) ?_) (fun r3 p3 => To.now ⟨rfl,?_,p2⟩))
  ·exact cmdText_120 _ _ _ _ _ _
  show entryOk a r.1 r3.1 = true
  unfold entryOk
  rw [hi,h3,if_neg (by decide),if_neg (by decide),if_pos rfl,decide_eq_true p3];rfl
 ·have hm:=p.1
  have e : r.1 = 1:=by
   simp only [List.mem_cons,List.not_mem_nil,or_false] at hm
   omega
  show entryOk a r.1 (⟨#[]⟩ : ByteArray) = true
  unfold entryOk
  rw [hi,e,if_pos rfl,emp_true.2 rfl];rfl
def lastTerm (t : Int) : List S37 → Int
 | [] => t
 | e :: r => lastTerm e.f0 r
theorem entriesOk_snoc (e : S37) (he : entryOk e.f0 e.f1 e.f2 = true) : ∀ (l : List S37) (t : Int), entriesOk t l = true → lastTerm t l ≤ e.f0 → entriesOk t (l ++ [e]) = true ∧ lastTerm t (l ++ [e]) = e.f0
 | [],t,_,h2 => by
  simp only [lastTerm] at h2
  simp [entriesOk,lastTerm,he,h2]
 | x :: r,t,h1,h2 => by
  simp only [entriesOk,Bool.and_eq_true] at h1;obtain ⟨a,b⟩:=entriesOk_snoc e he r x.f0 h1.2.2 h2;simp only [List.cons_append,entriesOk,Bool.and_eq_true,lastTerm];exact ⟨⟨h1.1,h1.2.1,a⟩,b⟩
theorem entriesOk_mem : ∀ {l : List S37} {t : Int}, entriesOk t l = true → ∀ x ∈ l, entryOk x.f0 x.f1 x.f2 = true ∧ t ≤ x.f0
 | e :: r,t,h,x,hx => by
  simp only [entriesOk,Bool.and_eq_true,decide_eq_true_eq] at h
  rcases List.mem_cons.1 hx with rfl|hx
  ·exact ⟨h.1,h.2.1⟩
  ·have:=entriesOk_mem h.2.2 x hx;exact ⟨this.1,by omega⟩
theorem entriesOk_data {l : List S37} {t : Int} (h : entriesOk t l = true) : ∀ x ∈ l, x.f2.size ≤ 1048576 := fun x hx => by
 have:=entryOk_size (entriesOk_mem h x hx).1;omega
theorem spec_l12Right_loop {l : List Int} (hl : l.length ≤ 140737488351232) (s t : Int) : ∀ (m n : Nat) (x i y : Int) (acc : List S37), 8 - n ≤ m → n ≤ 8 → acc.length = n → 0 ≤ x → x ≤ 2 + 2 * (n : Int) → entriesOk t acc = true → lastTerm t acc ≤ x → Cur l i →
  To (fun k => spec_l12Right.l0 k x (n : Int) l i y s t acc) (fun r => r.1 = s ∧ r.2.1 = t ∧ r.2.2.1.length ≤ 8 ∧ entriesOk t r.2.2.1 = true ∧ Cur l r.2.2.2.1):=by
 intro m
 induction m with
 | zero =>
  intro n x i y acc h1 h2 h3 h4 h5 h6 h7 h;refine To.step (fun _ => rfl) ?_;simp only [spec_l12Right.l0];exact To.bind (spec_l01Below_to hl y h 8) (fun r p => To.neg (by have:=p.2.1 (by omega);omega) (To.now ⟨rfl,rfl,by show acc.length ≤ 8;omega,h6,p.2.2⟩))
 | succ m ih =>
  intro n x i y acc h1 h2 h3 h4 h5 h6 h7 h;refine To.step (fun _ => rfl) ?_;simp only [spec_l12Right.l0,wrap64_succ (show n ≤ 9223372036854775806 by omega)];refine To.bind (spec_l01Below_to hl y h 8) (fun r p => To.ite (fun c => ?_) (fun c => To.now ⟨rfl,rfl,by show acc.length ≤ 8;omega,h6,p.2.2⟩));have:=p.2.1 (by omega);refine To.bind (spec_l01Once_to hl _ p.2.2 3) (fun r1 p1 => To.ite (fun _ => ?_) (fun _ => ?_))
  ·refine To.bind (spec_l01Below_to hl _ p1 2) (fun r2 p2 => ?_);have:=p2.1;have:=p2.2.1 (by omega)
   have e : wrap64 (wrap64 (x + 1) + r2.1) = x + 1 + r2.1:=by rw [wrap64_id (n:=x + 1) (by omega) (by omega),wrap64_id (by omega) (by omega)]
   rw [e];refine To.bind (spec_l11Right_right hl _ p2.2.2 _ ⟨by omega,by omega⟩) (fun r3 p3 => To.pos (by omega) ?_);obtain ⟨a,b⟩:=entriesOk_snoc ⟨r3.1,r3.2.1,r3.2.2.1⟩ p3.2.1 acc t h6 (by show _ ≤ r3.1;omega);exact ih (n + 1) _ _ _ _ (by omega) (by omega) (by simp [h3]) (by omega) (by omega) a (by rw [b];show r3.1 ≤ _;omega) p3.2.2
  ·refine To.bind (spec_l11Right_right hl _ p1 x ⟨h4,by omega⟩) (fun r3 p3 => To.pos (by omega) ?_);obtain ⟨a,b⟩:=entriesOk_snoc ⟨r3.1,r3.2.1,r3.2.2.1⟩ p3.2.1 acc t h6 (by show _ ≤ r3.1;omega);exact ih (n + 1) _ _ _ _ (by omega) (by omega) (by simp [h3]) (by omega) (by omega) a (by rw [b];show r3.1 ≤ _;omega) p3.2.2
theorem spec_l12Right_to {l : List Int} (hl : l.length ≤ 140737488351232) {i : Int} (y : Int) (h : Cur l i) : To (fun k => spec_l12Right.f k l i y) (fun r => logOk r.1 r.2.1 r.2.2.1 = true ∧ r.2.2.1.length ≤ 8 ∧ Cur l r.2.2.2.1) := by
 unfold spec_l12Right.f
 refine To.bind (spec_l01Below_to hl y h 3) (fun r1 p1 => To.bind (spec_l01Below_to hl _ p1.2.2 4) (fun r2 p2 => To.bind (spec_l01Below_to hl _ p2.2.2 3) (fun r3 p3 => ?_)));have a1:=p1.1;have b1:=p1.2.1 (by omega);have a2:=p2.1;have b2:=p2.2.1 (by omega);have a3:=p3.1;have b3:=p3.2.1 (by omega)
 have e : 0 ≤ r1.1 * r2.1 ∧ r1.1 * r2.1 ≤ 6:=by
  have:=Int.mul_nonneg a1 a2;have : r1.1 * r2.1 ≤ 2 * 3:=Int.mul_le_mul (by omega) (by omega) a2 (by omega)
  omega
 rw [wrap64_id (by omega) (by omega)];refine To.mono (spec_l12Right_loop hl _ _ 8 0 r3.1 _ _ [] (by omega) (by omega) rfl a3 (by omega) rfl (Int.le_refl _) p3.2.2) (fun r p => ⟨?_,p.2.2.1,p.2.2.2.2⟩)
 unfold logOk
 simp only [Bool.and_eq_true,inR_true,decide_eq_true_eq];have:=p.2.2.1;rw [p.1,p.2.1];exact ⟨⟨e.1,by omega⟩,⟨by omega,by omega⟩,by omega,by omega,p.2.2.2.1⟩
theorem spec_l12Next_loop {l : List Int} (hl : l.length ≤ 140737488351232) (s t : Int) (hs : 0 ≤ s ∧ s ≤ 100000) : ∀ (m n : Nat) (x i y : Int) (acc : List S37), 4 - n ≤ m → acc.length ≤ 100 + n → n ≤ 4 → (∀ e ∈ acc, e.f2.size ≤ 1048576) → Cur l i →
  To (fun k => spec_l12Next.l0 k x (n : Int) l i y s t acc) (fun _ => True):=by
 have fin : ∀ (i y : Int) (acc : List S37),acc.length ≤ 104 → (∀ e ∈ acc,e.f2.size ≤ 1048576) → Cur l i → To (fun k => (spec_l01Once.f l i y 4).bind fun bt448 => if bt448.1 = true then (spec_l01Below.f l bt448.2.1 bt448.2.2 (wrap64 ((acc.length : Int) + 1))).bind fun bt451 => (spec_LogTerm.f s t acc (wrap64 (s + bt451.1))).bind fun t454 => (spec_LogBehind.f k s t acc (wrap64 (s + bt451.1)) t454).bind fun bt455 => some (bt455.1,bt455.2.1,bt455.2.2,bt451.2.1,bt451.2.2) else some (s,t,acc,bt448.2.1,bt448.2.2)) (fun _ => True):=by
  intro i y acc h1 h2 h;refine To.bind (spec_l01Once_to hl y h 4) (fun r p => To.ite (fun _ => ?_) (fun _ => To.now trivial));refine To.bind (spec_l01Below_to hl _ p _) (fun r1 p1 => To.call (P:=fun _ => True) ⟨_,spec_LogTerm_eq s t acc _ hs (by omega),trivial⟩ (fun r2 _ => ?_));exact To.bind (P:=fun _ => True) (To.ev (spec_LogBehind_ev s t acc _ _ (by omega) h2) trivial) (fun r3 _ => To.now trivial)
 intro m
 induction m with
 | zero =>
  intro n x i y acc h1 h2 h3 h4 h;refine To.step (fun _ => rfl) ?_;simp only [spec_l12Next.l0];exact To.bind (spec_l01Below_to hl y h 4) (fun r p => To.neg (by have:=p.2.1 (by omega);omega) (fin _ _ acc (by omega) h4 p.2.2))
 | succ m ih =>
  intro n x i y acc h1 h2 h3 h4 h;refine To.step (fun _ => rfl) ?_;simp only [spec_l12Next.l0,wrap64_succ (show n ≤ 9223372036854775806 by omega)];refine To.bind (spec_l01Below_to hl y h 4) (fun r p => To.ite (fun c => ?_) (fun c => fin _ _ acc (by omega) h4 p.2.2));have:=p.2.1 (by omega);refine To.bind (spec_l01Below_to hl _ p.2.2 2) (fun r1 p1 => To.bind (spec_l11Right_to hl _ p1.2.2 _) (fun r2 p2 => To.pos (by omega) (To.call (P:=fun z => z = acc ++ [⟨r2.1,r2.2.1,r2.2.2.1⟩]) ⟨_,rfl,rfl⟩ (fun z hz => ?_))));subst hz;obtain ⟨v,hv⟩:=spec_LogLast_some s t (acc ++ [⟨r2.1,r2.2.1,r2.2.2.1⟩]) (by simp;omega);refine To.call (P:=fun _ => True) ⟨v,hv,trivial⟩ (fun v _ => ih (n + 1) _ _ _ _ (by omega) (by simp;omega) (by omega) ?_ p2.2);intro e he
  rcases List.mem_append.1 he with he|he
  ·exact h4 e he
  ·rw [List.mem_singleton] at he;subst he;have:=p2.1;show r2.2.2.1.size ≤ _;omega
theorem spec_l12Next_to {l : List Int} (hl : l.length ≤ 140737488351232) {i : Int} (y : Int) (h : Cur l i) (s t : Int) (es : List S37) (hs : 0 ≤ s ∧ s ≤ 100000) (hes : es.length ≤ 100) (hd : ∀ e ∈ es, e.f2.size ≤ 1048576) : To (fun k => spec_l12Next.f k l i y s t es) (fun _ => True) := by
 have go : ∀ (x b i y : Int),0 ≤ b → b ≤ es.length → Cur l i → To (fun k => spec_l12Next.j0 k x b l i y s t es) (fun _ => True):=by
  intro x b i y h0 h1 h;refine To.step (fun _ => rfl) ?_;simp only [spec_l12Next.j0,Option.bind_some,List.nil_append];refine To.pos h0 (To.pos h1 (To.pos (by simp;omega) ?_));exact spec_l12Next_loop hl s t hs 4 0 x i y _ (by omega) (by simp;omega) (by omega) (fun e he => hd e (List.mem_of_mem_take he)) h
 unfold spec_l12Next.f
 obtain ⟨v,hv⟩:=spec_LogLast_some s t es (by omega);refine To.call (P:=fun _ => True) ⟨v,hv,trivial⟩ (fun v _ => To.bind (spec_l01Once_to hl y h 2) (fun r p => To.ite (fun _ => ?_) (fun _ => go _ _ _ _ (by omega) (by omega) p)));refine To.bind (spec_l01Below_to hl _ p _) (fun r1 p1 => go _ _ _ _ p1.1 ?_ p1.2.2);have:=p1.2.1;rw [wrap64_id (by omega) (by omega)] at this;have:=this (by omega)
 omega
theorem spec_DrawRightLogs_to (l : List Int) (hl : l.length ≤ 140737488351232) : To (fun k => spec_DrawRightLogs.f k l) (fun r => logOk r.2.1 r.2.2.1 r.2.2.2.1 = true ∧ r.2.2.2.1.length ≤ 8) := by
 unfold spec_DrawRightLogs.f
 refine To.bind (spec_l01New_to l hl) (fun r hr => ?_);obtain ⟨z,rfl⟩:=hr;refine To.bind (spec_l12Right_to hl z (Cur.zero l)) (fun r p => ?_);obtain ⟨b1,b2,b3,b4⟩:=logOk_bounds p.1
 have hd : ∀ x ∈ r.2.2.1,x.f2.size ≤ 1048576:=by
  have:=p.1
  unfold logOk at this
  simp only [Bool.and_eq_true] at this;exact entriesOk_data this.2.2.2.2
 have hn:=p.2.1;refine To.bind (P:=fun _ => True) (To.ev (spec_LogFile_ev r.1 r.2.1 r.2.2.1 (by omega) hd) trivial) (fun r1 _ => ?_);exact To.bind (spec_l12Next_to hl _ p.2.2 r.1 r.2.1 r.2.2.1 b1 (by omega) hd) (fun r2 _ => To.now ⟨p.1,p.2.1⟩)
theorem spec_DrawPlaces_loop {l : List Int} (hl : l.length ≤ 140737488351232) : ∀ (m n : Nat) (acc : List Int) (i y : Int), 12 - n ≤ m → n ≤ 12 → acc.length = n → (∀ x ∈ acc, 0 ≤ x) → Cur l i →
  To (fun k => spec_DrawPlaces.l0 k acc (n : Int) l i y) (fun r => r.length = 12 ∧ ∀ x ∈ r,0 ≤ x):=by
 intro m
 induction m with
 | zero =>
  intro n acc i y h1 h2 h3 h4 h;refine To.step (fun _ => rfl) ?_;simp only [spec_DrawPlaces.l0];exact To.neg (by omega) (To.now ⟨by omega,h4⟩)
 | succ m ih =>
  intro n acc i y h1 h2 h3 h4 h;refine To.step (fun _ => rfl) ?_;simp only [spec_DrawPlaces.l0,wrap64_succ (show n ≤ 9223372036854775806 by omega)];refine To.ite (fun c => To.bind (spec_l01Below_to hl y h 10000) (fun r p => To.pos (by omega) (ih (n + 1) _ _ _ (by omega) (by omega) (by simp [h3]) ?_ p.2.2))) (fun c => To.now ⟨by omega,h4⟩);intro x hx
  rcases List.mem_append.1 hx with hx|hx
  ·exact h4 x hx
  ·rw [List.mem_singleton] at hx;subst hx;exact p.1
theorem spec_DrawPlaces_to (l : List Int) (hl : l.length ≤ 140737488351232) : To (fun k => spec_DrawPlaces.f k l) (fun r => r.length = 12 ∧ ∀ x ∈ r, 0 ≤ x) := by
 unfold spec_DrawPlaces.f
 refine To.bind (spec_l01New_to l hl) (fun r hr => ?_);obtain ⟨z,rfl⟩:=hr;exact To.bind (spec_l01Byte_to hl z (Cur.zero l)) (fun r p => spec_DrawPlaces_loop hl 12 0 [] _ _ (by omega) (by omega) rfl (by simp) p.2.2)
theorem rdT37_of_drop (l : List S37) (n : Nat) (i : Int) (h0 : 0 ≤ i) : rd_T37 (l.drop n) i = rd_T37 l ((n : Int) + i) := by
 obtain ⟨j,rfl⟩:=Int.eq_ofNat_of_zero_le h0
 unfold rd_T37
 rw [Int.toNat_natCast,show ((n : Int) + (j : Int)).toNat = n + j by omega]
 simp [List.getD_eq_getElem?_getD]
theorem entriesOk_drop : ∀ (n : Nat) (l : List S37) (t : Int), entriesOk t l = true → 1 ≤ n → n ≤ l.length → entriesOk (rd_T37 l ((n : Int) - 1)).f0 (l.drop n) = true
 | 0,_,_,_,h,_ => by omega
 | n + 1,[],_,_,_,h => by simp at h
 | 0 + 1,e :: r,t,h,_,_ => by
  simp only [entriesOk,Bool.and_eq_true] at h;exact h.2.2
 | (n + 1) + 1,e :: r,t,h,_,h2 => by
  simp only [entriesOk,Bool.and_eq_true] at h;have:=entriesOk_drop (n + 1) r e.f0 h.2.2 (by omega) (by simp at h2;omega)
  have e1 : rd_T37 (e :: r) (((n + 1 + 1 : Nat) : Int) - 1) = rd_T37 r (((n + 1 : Nat) : Int) - 1):=by
   unfold rd_T37
   rw [show (((n + 1 + 1 : Nat) : Int) - 1).toNat = n + 1 by omega,show (((n + 1 : Nat) : Int) - 1).toNat = n by omega];rfl
  rw [e1];exact this
theorem rdT37_mem {l : List S37} {i : Int} (h0 : 0 ≤ i) (h1 : i < l.length) : rd_T37 l i ∈ l := by
 obtain ⟨n,rfl⟩:=Int.eq_ofNat_of_zero_le h0
 unfold rd_T37
 rw [Int.toNat_natCast,List.getD_eq_getElem?_getD,List.getElem?_eq_getElem (by omega)]
 simp
theorem spec_LogLast_eq (s t : Int) (l : List S37) (hs : 0 ≤ s ∧ s ≤ 100000) (hl : l.length ≤ 120) : spec_LogLast.f s t l = some (s + (l.length : Int), logTerm s t l (s + (l.length : Int))) := by
 unfold spec_LogLast.f logTerm
 by_cases h : (l.length : Int) = 0
 ·rw [if_pos h,if_pos (by omega),h,Int.add_zero]
 ·have w : wrap64 ((l.length : Int) - 1) = (l.length : Int) - 1:=wrap64_id (by omega) (by omega);rw [if_neg h,w,if_pos (by omega),if_pos (by omega),wrap64_id (by omega) (by omega),if_neg (by omega),if_pos ⟨by omega,by omega⟩]
  congr 5;omega
theorem FnBehind_loop (s t : Int) (l : List S37) (n : Nat) (hk : logOk s t l = true) (hn : n ≤ l.length) (tm : Int) (htm : tm = logTerm s t l (s + (n : Int))) : ∀ (m i : Nat), l.length - i ≤ m → n ≤ i → i ≤ l.length + 1 →
  Ev (fun k => laws_FnBehind.l0 k (s + (n : Int)) tm (s + (i : Int)) s t l (s + (n : Int)) tm (l.drop n)) true:=by
 obtain ⟨b1,b2,b3,b4⟩:=logOk_bounds hk
 have hes : entriesOk t l = true:=by unfold logOk at hk;simp only [Bool.and_eq_true] at hk;exact hk.2.2.2.2
 have hlast : laws_lastOf.f s t l = some (s + (l.length : Int)):=by unfold laws_lastOf.f;rw [wrap64_id (by omega) (by omega)]
 have same : ∀ i : Nat,n ≤ i → i ≤ l.length → logTerm (s + (n : Int)) tm (l.drop n) (s + (i : Int)) = logTerm s t l (s + (i : Int)):=by
  intro i h1 h2
  by_cases e : n = i
  ·subst e;rw [logTerm,if_pos rfl,htm]
  ·unfold logTerm
   rw [if_neg (by omega),if_pos (by simp only [List.length_drop];omega),if_neg (by omega),if_pos (by omega),rdT37_of_drop _ _ _ (by omega)]
   congr 2;omega
 have htm0 : 0 ≤ tm ∧ tm ≤ 100000:=by
  rw [htm,logTerm]
  by_cases e : n = 0
  ·rw [if_pos (by omega)];exact b2
  ·rw [if_neg (by omega),if_pos (by omega)];exact entryOk_term (entriesOk_mem hes _ (rdT37_mem (by omega) (by omega))).1
 have other : Ev (fun k => (impl_LogBehind.f k s t l (s + (n : Int)) (wrap64 (tm + 1))).bind fun bt => (if (bt.2.2.length : Int) = 0 then (some (bt.1 == s + (n : Int))) else (some false))) true:=by
  have hb:=impl_LogBehind_ev s t l (s + (n : Int)) (wrap64 (tm + 1)) (by omega) (entriesOk_data hes) (by omega);rw [wrap64_id (by omega) (by omega)] at hb ⊢
  have e : logBehind s t l (s + (n : Int)) (tm + 1) = (s + (n : Int),tm + 1,[]):=by
   unfold logBehind
   rw [if_neg];simp only [Bool.and_eq_true,decide_eq_true_eq];rw [← htm];omega
  rw [e] at hb;exact Ev.bind hb (Ev.pos rfl (Ev.done (by simp)))
 intro m
 induction m with
 | zero =>
  intro i h1 h2 h3;refine Ev.step (fun _ => rfl) ?_;simp only [laws_FnBehind.l0];refine Ev.call hlast (Ev.ite (fun c => ?_) (fun _ => other))
  obtain rfl : i = l.length:=by omega
  have e1:=impl_LogTerm_eq (s + (n : Int)) tm (l.drop n) (s + (l.length : Int)) (by omega) (by simp only [List.length_drop];omega) (by omega);have e2:=impl_LogTerm_eq s t l (s + (l.length : Int)) b1 b3 (by omega);rw [same _ h2 (Nat.le_refl _)] at e1
  have w1 : wrap64 (s + (l.length : Int) - (s + (n : Int))) = (l.length : Int) - n:=by rw [wrap64_id (by omega) (by omega)];omega
  have w2 : wrap64 (s + (l.length : Int) - s) = (l.length : Int):=by rw [wrap64_id (by omega) (by omega)];omega
  have w3 : wrap64 ((l.length : Int) - n - 1) = (l.length : Int) - n - 1:=wrap64_id (by omega) (by omega);have w4 : wrap64 ((l.length : Int) - 1) = (l.length : Int) - 1:=wrap64_id (by omega) (by omega)
  have w5 : wrap64 (s + (l.length : Int) + 1) = s + ((l.length + 1 : Nat) : Int):=by rw [wrap64_id (by omega) (by omega)];omega
  have out : Ev (fun k => laws_FnBehind.l0 k (s + (n : Int)) tm (s + ((l.length + 1 : Nat) : Int)) s t l (s + (n : Int)) tm (l.drop n)) true:=by
   refine Ev.step (fun _ => rfl) ?_;simp only [laws_FnBehind.l0];exact Ev.call hlast (Ev.neg (by omega) other)
  refine Ev.call e1 (Ev.call e2 (Ev.pos rfl (Ev.ite (fun c2 => ?_) (fun _ => by rw [w5];exact out))))
  have hr : rd_T37 (l.drop n) ((l.length : Int) - n - 1) = rd_T37 l ((l.length : Int) - 1):=by rw [rdT37_of_drop _ _ _ (by omega)];congr 1;omega
  rw [w1,w2,w3,w4,w5,hr];exact Ev.pos (by omega) (Ev.pos (by simp only [List.length_drop];omega) (Ev.pos (by omega) (Ev.pos (by omega) (Ev.neg (by simp) out))))
 | succ m ih =>
  intro i h1 h2 h3;refine Ev.step (fun _ => rfl) ?_;simp only [laws_FnBehind.l0];refine Ev.call hlast (Ev.ite (fun c => ?_) (fun _ => other));have e1:=impl_LogTerm_eq (s + (n : Int)) tm (l.drop n) (s + (i : Int)) (by omega) (by simp only [List.length_drop];omega) (by omega);have e2:=impl_LogTerm_eq s t l (s + (i : Int)) b1 b3 (by omega);rw [same _ h2 (by omega)] at e1
  have w1 : wrap64 (s + (i : Int) - (s + (n : Int))) = (i : Int) - n:=by rw [wrap64_id (by omega) (by omega)];omega
  have w2 : wrap64 (s + (i : Int) - s) = (i : Int):=by rw [wrap64_id (by omega) (by omega)];omega
  have w3 : wrap64 ((i : Int) - n - 1) = (i : Int) - n - 1:=wrap64_id (by omega) (by omega);have w4 : wrap64 ((i : Int) - 1) = (i : Int) - 1:=wrap64_id (by omega) (by omega)
  have w5 : wrap64 (s + (i : Int) + 1) = s + ((i + 1 : Nat) : Int):=by rw [wrap64_id (by omega) (by omega)];omega
  have out:=ih (i + 1) (by omega) (by omega) (by omega);refine Ev.call e1 (Ev.call e2 (Ev.pos rfl (Ev.ite (fun c2 => ?_) (fun _ => by rw [w5];exact out))))
  have hr : rd_T37 (l.drop n) ((i : Int) - n - 1) = rd_T37 l ((i : Int) - 1):=by rw [rdT37_of_drop _ _ _ (by omega)];congr 1;omega
  rw [w1,w2,w3,w4,w5,hr];exact Ev.pos (by omega) (Ev.pos (by simp only [List.length_drop];omega) (Ev.pos (by omega) (Ev.pos (by omega) (Ev.neg (by simp) out))))
theorem FnBehind_q (l : List Int) (q : l.length * 1 ≤ 140737488351232 ∧ ∀ x ∈ l, (Lit.int .u8 x).wf = true) : ∃ k, laws_FnBehind.f k l = some true := by
 apply Ev.rounds
 unfold laws_FnBehind.f
 refine Ev.call (a:=decide ((l.length : Int) > 1048576)) rfl (Ev.ite (fun _ => Ev.now _) (fun hc => ?_));obtain ⟨⟨file,s,t,es,s',t',es'⟩,hr,hk,h8⟩:=spec_DrawRightLogs_to l (by omega);obtain ⟨ps,hp,hp1,hp2⟩:=spec_DrawPlaces_to l (by omega);refine Ev.bind hr (Ev.bind hp (Ev.pos (by omega) ?_));dsimp only at hk h8 ⊢;obtain ⟨b1,b2,b3,b4⟩:=logOk_bounds hk
 have hes : entriesOk t es = true:=by unfold logOk at hk;simp only [Bool.and_eq_true] at hk;exact hk.2.2.2.2
 have w1 : wrap64 ((es.length : Int) + 1) = (es.length : Int) + 1:=wrap64_id (by omega) (by omega);rw [w1];obtain ⟨n,hn⟩ : ∃ n : Nat,Int.tmod (rd ps 4) ((es.length : Int) + 1) = (n : Int):=Int.eq_ofNat_of_zero_le (Int.tmod_nonneg _ (hp2 _ (rd_mem (by omega) (by omega))));have hn2 : (n : Int) < (es.length : Int) + 1:=hn ▸ Int.tmod_lt_of_pos _ (by omega);rw [hn,wrap64_id (n:=s + (n : Int)) (by omega) (by omega)];refine Ev.neg (by omega) (Ev.call (impl_LogTerm_eq s t es _ b1 b3 (by omega)) ?_);have hin : inR (s + (n : Int)) s (s + (es.length : Int)) = true:=inR_true.2 ⟨by omega,by omega⟩
 have e : logBehind s t es (s + (n : Int)) (logTerm s t es (s + (n : Int))) = (s + (n : Int),logTerm s t es (s + (n : Int)),es.drop n):=by
  unfold logBehind
  rw [if_pos (by rw [hk,hin];simp),show (s + (n : Int) - s).toNat = n by omega]
 have hb:=impl_LogBehind_ev s t es (s + (n : Int)) (logTerm s t es (s + (n : Int))) (by omega) (entriesOk_data hes) (by omega);rw [e] at hb;generalize htm : logTerm s t es (s + (n : Int)) = tm at *;have htm':=htm.symm
 have htm0 : 0 ≤ tm ∧ tm ≤ 100000:=by
  rw [htm',logTerm]
  by_cases e : n = 0
  ·rw [if_pos (by omega)];exact b2
  ·rw [if_neg (by omega),if_pos (by omega)];exact entryOk_term (entriesOk_mem hes _ (rdT37_mem (by omega) (by omega))).1
 have hlast : logTerm (s + (n : Int)) tm (es.drop n) (s + (n : Int) + ((es.drop n).length : Int)) = logTerm s t es (s + (es.length : Int)):=by
  have hl : ((es.drop n).length : Int) = (es.length : Int) - n:=by simp only [List.length_drop];omega
  rw [hl,show s + (n : Int) + ((es.length : Int) - n) = s + (es.length : Int) by omega]
  by_cases e : n = es.length
  ·subst e;rw [logTerm,if_pos rfl,htm']
  ·unfold logTerm
   rw [if_neg (by omega),if_pos (by omega),if_neg (by omega),if_pos (by omega),rdT37_of_drop _ _ _ (by omega)]
   congr 2;omega
 have l1:=spec_LogLast_eq s t es b1 b3;have l2:=spec_LogLast_eq (s + (n : Int)) tm (es.drop n) (by omega) (by simp only [List.length_drop];omega);rw [hlast,show s + (n : Int) + ((es.drop n).length : Int) = s + (es.length : Int) by simp only [List.length_drop];omega] at l2
 have hok : logOk (s + (n : Int)) tm (es.drop n) = true:=by
  unfold logOk
  simp only [Bool.and_eq_true,inR_true,decide_eq_true_eq];refine ⟨⟨by omega,by omega⟩,htm0,by simp only [List.length_drop];omega,by simp only [List.length_drop];omega,?_⟩
  by_cases e : n = 0
  ·subst e;rw [logTerm,if_pos (by omega)] at htm';subst htm';exact hes
  ·rw [htm',logTerm,if_neg (by omega),if_pos (by omega)];have:=entriesOk_drop n es t hes (by omega) (by omega);rw [show s + (n : Int) - s - 1 = (n : Int) - 1 by omega];exact this
 refine Ev.bind hb (Ev.call (by rw [impl_LogLast_eq];exact l1) (Ev.call (by rw [impl_LogLast_eq];exact l2) (Ev.pos rfl (Ev.pos rfl (Ev.pos rfl (Ev.pos rfl ?_))))));refine Ev.bind (impl_LogOk_ev _ _ (es.drop n) (by simp only [List.length_drop];omega) (fun x hx => entriesOk_data hes x (List.mem_of_mem_drop hx))) ?_;rw [hok];refine Ev.pos rfl (Ev.step (fun _ => rfl) ?_);simp only [laws_FnBehind.j0];rw [decide_eq_false (by omega)];exact Ev.neg (by simp) (FnBehind_loop s t es n hk (by omega) tm htm' es.length n (by omega) (Nat.le_refl _) (by omega))
end Go.Proofs.Ytgpafelepkhdoaa.Pure
