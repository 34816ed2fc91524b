/- The law FnMessages answers true: a drawn right message comes back from its bytes, and what is read is just what would be written. For all arguments; no further condition. -/
import Derived.Test.YtbcgnncbiblibaaPFnMessagesx28
import Derived.Test.YtbcgnncbiblibaaVFnMessagesBase
namespace Go.Proofs.Ytbcgnncbiblibaa.Pure
open Go.RowKit Go.Proofs.Ytbcgnncbiblibaa.PFnMessages Go.Proofs.YtbcgnncbiblibaaW.PrintWords Go.Proofs.YtbcgnncbiblibaaW.PrintLast Go.Proofs.Ytbcgnncbiblibaa.Base
set_option linter.unusedVariables false
theorem rdT69_drop {xs : List S69} {n : Nat} {x : S69} {t : List S69} (h : xs.drop n = x :: t) : rd_T69 xs (n : Int) = x := by
 unfold rd_T69
 rw [Int.toNat_natCast];exact (drop_cons h).2.1 _
def entriesIn (t T : Int) : List S69 → Bool
 | [] => true
 | e :: r => entryOk e.f0 e.f1 e.f2 && (decide (t ≤ e.f0) && (decide (e.f0 ≤ T) && entriesIn e.f0 T r))
def msgOk (kd fr tt tm ix lt cm : Int) (ok : Bool) (es : List S69) (cf : List Int) (da : ByteArray) (la : Bool) : Bool :=
 inR kd 1 6 && (inR fr 1 4 && (inR tt 1 4 && (!(fr == tt) && (inR tm 0 100000 && (inR lt 0 100000 && (inR ix 0 100000 && (inR cm 0 100000 && (decide (es.length ≤ 4) && (decide (es.length = 0 ∨ kd = 3) && (entriesIn lt tm es &&
  (if kd = 5 then confOk cf && decide (da.size ≤ 60) else decide (cf.length = 0) && (emp da && !la))))))))))))
theorem spec_l01In_eq (a b c : Int) : spec_l01In.f a b c = some (inR a b c) := by
 unfold spec_l01In.f inR
 by_cases h : b ≤ a
 ·rw [if_pos h];simp [h]
 ·rw [if_neg h];simp [h]
theorem impl_within_eq (a b c : Int) : impl_within.f a b c = some (inR a b c) := by
 unfold impl_within.f inR
 by_cases h : b ≤ a
 ·rw [if_pos h];simp [h]
 ·rw [if_neg h];simp [h]
theorem spec_l07Rise_loop (xs : List Int) (lo hi : Int) (hx : xs.length ≤ 9223372036854775806) : ∀ (rest : List Int) (n : Nat), xs.drop n = rest →
  Ev (fun k => spec_l07Rise.l0 k xs lo hi (n : Int)) (rise lo hi (prevOf xs n) rest):=by
 intro rest
 induction rest with
 | nil =>
  intro n h;have:=drop_nil h;refine Ev.step (fun _ => rfl) ?_;simp only [spec_l07Rise.l0];exact Ev.neg (by omega) (Ev.done (by cases n <;> rfl))
 | cons x t ih =>
  intro n h;obtain ⟨h1,-,h3⟩:=drop_cons h;have ih:=ih (n + 1) h3;rw [prevOf_next h] at ih;refine Ev.step (fun _ => rfl) ?_;simp only [spec_l07Rise.l0,drop_rd h,wrap64_succ (show n ≤ 9223372036854775806 by omega)];refine Ev.pos (by omega) (Ev.pos (by omega) (Ev.call (spec_l01In_eq _ _ _) ?_))
  cases hb : inR x lo hi
  ·exact Ev.neg (by simp) (Ev.done (by cases n <;> simp [rise,prevOf,hb]))
  ·refine Ev.pos rfl ?_
   cases n with
   | zero => exact Ev.neg (by omega) (Ev.eq ih (by simp [rise,prevOf,hb]))
   | succ m =>
    refine Ev.pos (by omega) ?_;simp only [wrap64_pred (show m ≤ 9223372036854775806 by omega)];refine Ev.pos (by omega) (Ev.pos (by omega) (Ev.ite (fun hc => Ev.done ?_) (fun hc => Ev.eq ih ?_)))
    ·simp only [prevOf,rise,hb,decide_eq_false (show ¬ rd xs (m : Int) < x by omega)];simp
    ·simp only [prevOf,rise,hb,decide_eq_true (show rd xs (m : Int) < x by omega)];simp
theorem spec_l07Rise_ev (xs : List Int) (lo hi : Int) (hx : xs.length ≤ 9223372036854775806) : Ev (fun k => spec_l07Rise.f k xs lo hi) (rise lo hi none xs) :=
 spec_l07Rise_loop xs lo hi hx xs 0 rfl
theorem spec_ConfOk_ev (xs : List Int) (hx : xs.length ≤ 9223372036854775806) : Ev (fun k => spec_ConfOk.f k xs) (confOk xs) := by
 unfold spec_ConfOk.f
 refine Ev.call (spec_l01In_eq _ _ _) ?_
 cases hb : inR xs.length 1 4
 ·exact Ev.neg (by simp) (Ev.done (by simp [confOk,hb]))
 ·exact Ev.pos rfl (Ev.bind (spec_l07Rise_ev xs 1 4 hx) (Ev.done (by simp [confOk,hb])))
theorem impl_ConfOk_loop (xs : List Int) (hx : xs.length ≤ 9223372036854775806) : ∀ (rest : List Int) (n : Nat), xs.drop n = rest →
  Ev (fun k => impl_ConfOk.l0 k xs xs (xs.length : Int) (n : Int)) (rise 1 4 (prevOf xs n) rest && inR xs.length 1 4):=by
 intro rest
 induction rest with
 | nil =>
  intro n h;have:=drop_nil h;refine Ev.step (fun _ => rfl) ?_;simp only [impl_ConfOk.l0];exact Ev.neg (by omega) (Ev.call (impl_within_eq _ _ _) (Ev.done (by cases n <;> simp [rise])))
 | cons x t ih =>
  intro n h;obtain ⟨h1,-,h3⟩:=drop_cons h;have ih:=ih (n + 1) h3;rw [prevOf_next h] at ih;refine Ev.step (fun _ => rfl) ?_;simp only [impl_ConfOk.l0,drop_rd h,wrap64_succ (show n ≤ 9223372036854775806 by omega)];refine Ev.pos (by omega) (Ev.pos (by omega) (Ev.pos (by omega) (Ev.call (impl_within_eq _ _ _) ?_)))
  cases hb : inR x 1 4
  ·exact Ev.neg (by simp) (Ev.done (by cases n <;> simp [rise,prevOf,hb]))
  ·refine Ev.pos rfl ?_
   cases n with
   | zero => exact Ev.neg (by omega) (Ev.eq ih (by simp [rise,prevOf,hb]))
   | succ m =>
    refine Ev.pos (by omega) ?_;simp only [wrap64_pred (show m ≤ 9223372036854775806 by omega)];refine Ev.pos (by omega) (Ev.pos (by omega) (Ev.ite (fun hc => Ev.done ?_) (fun hc => Ev.eq ih ?_)))
    ·simp only [prevOf,rise,hb,decide_eq_false (show ¬ rd xs (m : Int) < x by omega)];simp
    ·simp only [prevOf,rise,hb,decide_eq_true (show rd xs (m : Int) < x by omega)];simp
theorem impl_ConfOk_ev (xs : List Int) (hx : xs.length ≤ 9223372036854775806) : Ev (fun k => impl_ConfOk.f k xs) (confOk xs) :=
 Ev.eq (impl_ConfOk_loop xs hx xs 0 rfl) (by rw [confOk,Bool.and_comm];rfl)
theorem spec_ConfText_loop (xs : List Int) (hx : xs.length ≤ 1048576) : ∀ (rest : List Int) (n : Nat) (acc : List Int), xs.drop n = rest → acc.length = n →
  Ev (fun k => spec_ConfText.l0 k xs acc (n : Int)) (strOfNums (acc ++ rest.map (· % 256)),true):=by
 intro rest
 induction rest with
 | nil =>
  intro n acc h ha;have:=drop_nil h;refine Ev.step (fun _ => rfl) ?_;simp only [spec_ConfText.l0];exact Ev.neg (by omega) (Ev.done (by simp))
 | cons x t ih =>
  intro n acc h ha;obtain ⟨h1,-,h3⟩:=drop_cons h;refine Ev.step (fun _ => rfl) ?_;simp only [spec_ConfText.l0,drop_rd h,wrap64_succ (show n ≤ 9223372036854775806 by omega)];exact Ev.pos (by omega) (Ev.pos (by omega) (Ev.pos (by omega) (Ev.eq (ih (n + 1) (acc ++ [x % 256]) h3 (by simp [ha])) (by simp))))
theorem spec_ConfText_ev (xs : List Int) (hx : xs.length ≤ 1048576) : Ev (fun k => spec_ConfText.f k xs) (confText xs) := by
 unfold spec_ConfText.f
 refine Ev.bind (spec_ConfOk_ev xs (by omega)) ?_
 unfold confText
 cases hb : confOk xs
 ·exact Ev.neg (by simp) (Ev.done (by simp))
 ·exact Ev.pos rfl (Ev.eq (spec_ConfText_loop xs hx xs 0 [] rfl rfl) (by simp))
theorem spec_ReadConf_loop (s : ByteArray) (hx : s.size ≤ 1048576) : ∀ (rest : List Int) (n : Nat) (acc : List Int), (bytesOf s).drop n = rest → acc = (bytesOf s).take n → n ≤ 5 →
  Ev (fun k => spec_ReadConf.l0 k s acc (n : Int)) (readConf s):=by
 have hz:=bytesOf_length s
 have whole : ∀ (acc : List Int),acc = bytesOf s → Ev (fun k => if (acc.length : Int) = (s.size : Int) then ((spec_ConfOk.f k acc).bind fun t => (if t = true then (some (acc,true)) else (some ((([] : List Int)),false)))) else (some ((([] : List Int)),false))) (readConf s):=by
  intro acc ha;subst ha;refine Ev.pos (by omega) (Ev.bind (spec_ConfOk_ev _ (by omega)) ?_)
  unfold readConf
  cases hb : confOk (bytesOf s)
  ·exact Ev.neg (by simp) (Ev.done (by simp))
  ·exact Ev.pos rfl (Ev.done (by simp))
 intro rest
 induction rest with
 | nil =>
  intro n acc h ha h5;have:=bytesOf_drop_nil h;refine Ev.step (fun _ => rfl) ?_;simp only [spec_ReadConf.l0];exact Ev.neg (by omega) (whole acc (by rw [ha,List.take_of_length_le (by omega)]))
 | cons x t ih =>
  intro n acc h ha h5;obtain ⟨h1,h2,h3,h4,h6⟩:=bytesOf_drop_lt h;refine Ev.step (fun _ => rfl) ?_;simp only [spec_ReadConf.l0,h2,wrap64_id (show -9223372036854775808 ≤ x by omega) (show x ≤ 9223372036854775807 by omega),wrap64_succ (show n ≤ 9223372036854775806 by omega)];refine Ev.pos (by omega) (Ev.ite (fun hc => ?_) (fun hc => ?_))
  ·refine Ev.pos (by omega) (Ev.pos (by rw [ha,List.length_take];omega) (ih (n + 1) (acc ++ [x]) h3 ?_ (by omega)));rw [ha,List.take_succ_eq_append_getElem (show n < (bytesOf s).length by omega)];have e:=drop_rd h;rw [rd_nat,List.getD_eq_getElem?_getD,List.getElem?_eq_getElem (show n < (bytesOf s).length by omega)] at e;rw [← e];rfl
  ·have hl : acc.length = n:=by rw [ha,List.length_take];omega
   have hf : confOk (bytesOf s) = false:=by
    cases hb : confOk (bytesOf s)
    ·rfl
    ·have:=confOk_len hb;omega
   by_cases he : n = s.size
   ·exact whole acc (by rw [ha,List.take_of_length_le (by omega)])
   ·exact Ev.neg (by omega) (Ev.done (by simp [readConf,hf]))
theorem spec_ReadConf_ev (s : ByteArray) (hx : s.size ≤ 1048576) : Ev (fun k => spec_ReadConf.f k s) (readConf s) :=
 spec_ReadConf_loop s hx _ 0 [] rfl rfl (by omega)
theorem impl_ReadConf_loop (s : ByteArray) (hx : s.size ≤ 1048576) : ∀ (rest : List Int) (n : Nat) (acc : List Int), (bytesOf s).drop n = rest → acc = (bytesOf s).take n →
  Ev (fun k => impl_ReadConf.l0 k s acc (n : Int)) (readConf s):=by
 have hz:=bytesOf_length s;intro rest
 induction rest with
 | nil =>
  intro n acc h ha;have:=bytesOf_drop_nil h;refine Ev.step (fun _ => rfl) ?_;simp only [impl_ReadConf.l0]
  obtain rfl : acc = bytesOf s:=by rw [ha,List.take_of_length_le (by omega)]
  refine Ev.neg (by omega) (Ev.bind (impl_ConfOk_ev _ (by omega)) ?_)
  unfold readConf
  cases hb : confOk (bytesOf s)
  ·exact Ev.neg (by simp) (Ev.done (by simp))
  ·exact Ev.pos rfl (Ev.done (by simp))
 | cons x t ih =>
  intro n acc h ha;obtain ⟨h1,h2,h3,h4,h6⟩:=bytesOf_drop_lt h;refine Ev.step (fun _ => rfl) ?_;simp only [impl_ReadConf.l0,h2,wrap64_id (show -9223372036854775808 ≤ x by omega) (show x ≤ 9223372036854775807 by omega),wrap64_succ (show n ≤ 9223372036854775806 by omega)];refine Ev.pos (by omega) (Ev.pos (by omega) (Ev.pos (by rw [ha,List.length_take];omega) (ih (n + 1) (acc ++ [x]) h3 ?_)));rw [ha,List.take_succ_eq_append_getElem (show n < (bytesOf s).length by omega)];have e:=drop_rd h;rw [rd_nat,List.getD_eq_getElem?_getD,List.getElem?_eq_getElem (show n < (bytesOf s).length by omega)] at e;rw [← e];rfl
theorem impl_ReadConf_ev (s : ByteArray) (hx : s.size ≤ 1048576) : Ev (fun k => impl_ReadConf.f k s) (readConf s) :=
 impl_ReadConf_loop s hx _ 0 [] rfl rfl
theorem spec_l01Var_loop : ∀ (n : Nat) (acc : List Int), acc.length + n < 140737488355328 →
  Ev (fun k => spec_l01Var.l0 k (n : Int) acc) (strOfNums (acc ++ varL n)):=by
 intro n
 induction n using Nat.strongRecOn with
 | ind n ih =>
  intro acc h;refine Ev.step (fun _ => rfl) ?_;simp only [spec_l01Var.l0,tdiv128 n (by omega),tmod128 n];refine Ev.ite (fun hc => ?_) (fun hc => ?_)
  ·rw [varL_big (by omega)];exact Ev.pos (by omega) (Ev.eq (ih (n / 128) (by omega) _ (by simp;omega)) (by simp))
  ·rw [varL_small (by omega)];exact Ev.pos (by omega) (Ev.done (by rw [Int.emod_eq_of_lt (by omega) (by omega)]))
theorem spec_l01Var_nat (n : Nat) (h : n ≤ 34359738367) : Ev (fun k => spec_l01Var.f k (n : Int)) (varText n) := spec_l01Var_loop n [] (by simp; omega)
theorem spec_l01Var_ev (n : Int) (h0 : 0 ≤ n) (h : n ≤ 34359738367) : Ev (fun k => spec_l01Var.f k n) (varText n.toNat) := by
 obtain ⟨m,rfl⟩:=Int.eq_ofNat_of_zero_le h0;exact spec_l01Var_nat m (by omega)
theorem impl_VarText_loop : ∀ (n : Nat) (acc : List Int), acc.length + n < 140737488355328 →
  Ev (fun k => impl_VarText.l0 k (n : Int) acc) (strOfNums (acc ++ varL n),true):=by
 intro n
 induction n using Nat.strongRecOn with
 | ind n ih =>
  intro acc h;refine Ev.step (fun _ => rfl) ?_;simp only [impl_VarText.l0,tdiv128 n (by omega),tmod128 n];refine Ev.ite (fun hc => ?_) (fun hc => ?_)
  ·rw [varL_big (by omega)];exact Ev.pos (by omega) (Ev.eq (ih (n / 128) (by omega) _ (by simp;omega)) (by simp))
  ·rw [varL_small (by omega)];exact Ev.pos (by omega) (Ev.done (by rw [Int.emod_eq_of_lt (by omega) (by omega)]))
theorem impl_VarText_ev (n : Int) : Ev (fun k => impl_VarText.f k n) (varTextOf n) := by
 unfold impl_VarText.f varTextOf
 refine Ev.call (impl_within_eq _ _ _) ?_
 cases hb : inR n 0 1000000000
 ·exact Ev.neg (by simp) (Ev.done (by simp))
 ·have:=inR_true.1 hb;obtain ⟨m,rfl⟩:=Int.eq_ofNat_of_zero_le this.1;exact Ev.pos rfl (Ev.eq (impl_VarText_loop m [] (by simp;omega)) (by simp [varText]))
theorem impl_VarText_nat (n : Nat) (h : n ≤ 1000000000) : Ev (fun k => impl_VarText.f k (n : Int)) (varText n, true) :=
 Ev.eq (impl_VarText_ev (n : Int)) (by rw [varTextOf,if_pos (inR_true.2 (by omega))];rfl)
theorem impl_vars_loop (xs : List Int) (hx : xs.length ≤ 1048576) : ∀ (rest : List Int) (n : Nat) (acc : List Int), xs.drop n = rest → acc.length + 5 * rest.length < 140737488355328 →
  Ev (fun k => impl_vars.l0 k acc xs (xs.length : Int) (n : Int)) (if rest.all (fun n => inR n 0 1000000000) = true then (strOfNums (acc ++ rest.flatMap fun n => varL n.toNat),true) else (⟨#[]⟩,false)):=by
 intro rest
 induction rest with
 | nil =>
  intro n acc h ha;have:=drop_nil h;refine Ev.step (fun _ => rfl) ?_;simp only [impl_vars.l0];exact Ev.neg (by omega) (Ev.done (by simp))
 | cons x t ih =>
  intro n acc h ha;obtain ⟨h1,-,h3⟩:=drop_cons h;refine Ev.step (fun _ => rfl) ?_;simp only [impl_vars.l0,drop_rd h,wrap64_succ (show n ≤ 9223372036854775806 by omega)];refine Ev.pos (by omega) (Ev.pos (by omega) (Ev.pos (by omega) (Ev.bind (impl_VarText_ev x) ?_)))
  unfold varTextOf
  cases hb : inR x 0 1000000000
  ·exact Ev.neg (by simp) (Ev.done (by simp [hb]))
  ·have hr:=inR_true.1 hb;have hv:=varL_len (show x.toNat ≤ 34359738367 by omega);simp only [if_true,varText,strOfNums_size,bytesOf_strOfNums _ (varL_bytes _)];rw [List.length_cons] at ha;refine Ev.pos (by omega) (Ev.eq (ih (n + 1) (acc ++ varL x.toNat) h3 (by rw [List.length_append];omega)) ?_)
   simp [hb]
theorem impl_vars_ev (xs : List Int) (hx : xs.length ≤ 1048576) : Ev (fun k => impl_vars.f k xs) (varsOf xs) :=
 Ev.eq (impl_vars_loop xs hx xs 0 [] rfl (by simp;omega)) (by simp [varsOf])
theorem spec_CommandOk_ev (op s q : Int) (key value old : ByteArray) : Ev (fun k => spec_CommandOk.f k op s q key value old) (cmdOk op s q key value old) := by
 have bad : ∀ r,r = false → Ev (fun k => spec_CommandOk.j0 k true op s q key value old) r:=by
  rintro r rfl;refine Ev.step (fun _ => rfl) ?_;simp only [spec_CommandOk.j0];exact Ev.pos trivial (Ev.now _)
 unfold spec_CommandOk.f cmdOk
 refine Ev.call (spec_l01In_eq _ _ _) ?_
 cases h1 : inR op 1 5
 ·exact Ev.neg (by simp) (bad _ (by simp))
 refine Ev.pos rfl (Ev.call (spec_l01In_eq _ _ _) ?_)
 cases h2 : inR s 0 100000
 ·exact Ev.neg (by simp) (bad _ (by simp))
 refine Ev.pos rfl (Ev.call (spec_l01In_eq _ _ _) ?_)
 cases h3 : inR q 0 100000
 ·exact Ev.neg (by simp) (bad _ (by simp))
 refine Ev.pos rfl (Ev.ite (fun h4 => bad _ ?_) (fun h4 => ?_))
 ·rw [decide_eq_false (show ¬ value.size ≤ 12 by omega)];simp
 rw [decide_eq_true (show value.size ≤ 12 by omega)]
 by_cases h5 : old.size ≤ 12
 ·rw [decide_eq_true h5,decide_eq_false (show ¬ (old.size : Int) > 12 by omega)];refine Ev.step (fun _ => rfl) ?_;simp only [spec_CommandOk.j0,emp_def];refine Ev.neg (by simp) (Ev.ite (fun h6 => Ev.done ?_) (fun h6 => ?_))
  ·subst h6;simp
  ·refine Ev.call (spec_l01In_eq _ _ _) ?_;simp only [if_neg h6]
   cases h7 : inR key.size 1 9
   ·exact Ev.neg (by simp) (Ev.done (by simp))
   ·refine Ev.pos rfl (Ev.ite (fun h8 => ?_) (fun h8 => ?_))
    ·subst h8;refine Ev.step (fun _ => rfl) ?_;simp only [spec_CommandOk.j1,emp_def];refine Ev.pos rfl (Ev.ite (fun h9 => Ev.done ?_) (fun h9 => Ev.done ?_))
     ·simp [(emp_iff _).1 h9]
     ·simp [Bool.eq_false_iff.2 (fun e => h9 ((emp_iff _).2 e))]
    ·refine Ev.step (fun _ => rfl) ?_;simp only [spec_CommandOk.j1,emp_def]
     by_cases h9 : op = 4
     ·subst h9;refine Ev.pos rfl (Ev.ite (fun h9 => Ev.done ?_) (fun h9 => Ev.done ?_))
      ·simp [(emp_iff _).1 h9]
      ·simp [Bool.eq_false_iff.2 (fun e => h9 ((emp_iff _).2 e))]
     ·refine Ev.neg (by simp [h9]) (Ev.ite (fun h10 => Ev.done ?_) (fun h10 => Ev.done ?_))
      ·subst h10;simp
      ·simp [h8,h9,h10]
 ·rw [decide_eq_false h5,decide_eq_true (show (old.size : Int) > 12 by omega)];exact bad _ (by simp)
theorem spec_EntryOk_ev (t d : Int) (s : ByteArray) (hs : s.size ≤ 1048576) : Ev (fun k => spec_EntryOk.f k t d s) (entryOk t d s) := by
 unfold spec_EntryOk.f entryOk
 simp only [emp_def];refine Ev.call (spec_l01In_eq _ _ _) ?_
 cases h1 : inR t 0 100000
 ·exact Ev.neg (by simp) (Ev.done (by simp))
 refine Ev.pos rfl (Ev.ite (fun h => Ev.done (by simp [h])) (fun h => Ev.ite (fun h' => ?_) (fun h' => Ev.ite (fun h2 => Ev.done ?_) (fun h2 => Ev.done (by simp [h,h',h2])))))
 ·refine Ev.bind (spec_ReadConf_ev s hs) (Ev.done ?_);subst h'
  unfold readConf
  cases hc : confOk (bytesOf s) <;> simp
 ·subst h2
  simp
  omega
theorem impl_EntryOk_ev (t d : Int) (s : ByteArray) (hs : s.size ≤ 1048576) : Ev (fun k => impl_EntryOk.f k t d s) (entryOk t d s) := by
 unfold impl_EntryOk.f entryOk
 simp only [emp_def];refine Ev.call (impl_within_eq _ _ _) ?_
 cases h1 : inR t 0 100000
 ·exact Ev.neg (by simp) (Ev.done (by simp))
 refine Ev.pos rfl (Ev.ite (fun h => Ev.done (by simp [h])) (fun h => Ev.ite (fun h' => ?_) (fun h' => Ev.ite (fun h2 => Ev.done ?_) (fun h2 => Ev.done (by simp [h,h',h2])))))
 ·refine Ev.bind (impl_ReadConf_ev s hs) (Ev.done ?_);subst h'
  unfold readConf
  cases hc : confOk (bytesOf s) <;> simp
 ·subst h2
  simp
  omega
theorem spec_l05Short_ev (s : ByteArray) (hs : s.size ≤ 1073741824) : Ev (fun k => spec_l05Short.f k s) (shortText s) := by
 have h:=varText_size (show s.size ≤ 34359738367 by omega);exact Ev.bind (spec_l01Var_nat _ (by omega)) (Ev.pos (by omega) (Ev.now _))
theorem impl_ShortText_ev (s : ByteArray) (hs : s.size ≤ 20000) : Ev (fun k => impl_ShortText.f k s) (shortText s, true) := by
 have h:=varText_size (show s.size ≤ 34359738367 by omega);exact Ev.neg (by omega) (Ev.bind (impl_VarText_nat _ (by omega)) (Ev.pos (by dsimp only;omega) (Ev.now _)))
theorem spec_CommandText_ev (op s q : Int) (key value old : ByteArray) : Ev (fun k => spec_CommandText.f k op s q key value old) (cmdText op s q key value old) := by
 unfold spec_CommandText.f cmdText
 refine Ev.bind (spec_CommandOk_ev op s q key value old) ?_
 cases hb : cmdOk op s q key value old
 ·exact Ev.neg (by simp) (Ev.done (by simp))
 obtain ⟨h1,h2,h3,h4,h5⟩:=cmdOk_sizes hb;have s1:=varText_size (show s.toNat ≤ 34359738367 by omega);have s2:=varText_size (show q.toNat ≤ 34359738367 by omega);have s3:=shortText_size (show key.size ≤ 34359738367 by omega);have s4:=shortText_size (show value.size ≤ 34359738367 by omega);have s5:=shortText_size (show old.size ≤ 34359738367 by omega)
 have s6 : (strOfNums [op % 256]).size = 1:=by rw [strOfNums_size];rfl
 refine Ev.pos rfl (Ev.call rfl (Ev.bind (spec_l01Var_ev s (by omega) (by omega)) (Ev.pos (by omega) (Ev.bind (spec_l01Var_ev q (by omega) (by omega)) (Ev.pos (by simp only [size_append];omega) (Ev.bind (spec_l05Short_ev key (by omega)) (Ev.pos (by simp only [size_append];omega) (Ev.bind (spec_l05Short_ev value (by omega)) (Ev.pos (by simp only [size_append];omega) (Ev.bind (spec_l05Short_ev old (by omega)) (Ev.pos (by simp only [size_append];omega) (Ev.done ?_))))))))))))
 simp
theorem spec_EntryText_ev (i t d : Int) (s : ByteArray) (hs : s.size ≤ 1048576) : Ev (fun k => spec_EntryText.f k i t d s) (entryText i t d s) := by
 unfold spec_EntryText.f entryText
 refine Ev.bind (spec_EntryOk_ev t d s hs) ?_
 cases hb : entryOk t d s
 ·refine Ev.neg (by simp) (Ev.step (fun _ => rfl) ?_);simp only [spec_EntryText.j0];exact Ev.pos trivial (Ev.done (by simp))
 refine Ev.pos rfl (Ev.call (spec_l01In_eq _ _ _) (Ev.step (fun _ => rfl) ?_));simp only [spec_EntryText.j0]
 cases hi : inR i 1 100000
 ·exact Ev.pos rfl (Ev.done (by simp))
 have h1:=inR_true.1 hi;have h2:=entryOk_term hb;have s1:=varText_size (show i.toNat ≤ 34359738367 by omega);have s2:=varText_size (show t.toNat ≤ 34359738367 by omega)
 have s3 : (strOfNums [d % 256]).size = 1:=by rw [strOfNums_size];rfl
 have s4 : (⟨#[69]⟩ : ByteArray).size = 1:=rfl;exact Ev.neg (by simp) (Ev.bind (spec_l01Var_ev i (by omega) (by omega)) (Ev.pos (by omega) (Ev.bind (spec_l01Var_ev t (by omega) (by omega)) (Ev.pos (by simp only [size_append];omega) (Ev.call rfl (Ev.pos (by simp only [size_append];omega) (Ev.pos (by simp only [size_append];omega) (Ev.done (by simp)))))))))
theorem impl_EntryText_ev (i t d : Int) (s : ByteArray) (hs : s.size ≤ 1048576) : Ev (fun k => impl_EntryText.f k i t d s) (entryText i t d s) := by
 unfold impl_EntryText.f entryText
 refine Ev.bind (impl_EntryOk_ev t d s hs) ?_
 cases hb : entryOk t d s
 ·exact Ev.neg (by simp) (Ev.done (by simp))
 refine Ev.pos rfl (Ev.call (impl_within_eq _ _ _) ?_)
 cases hi : inR i 1 100000
 ·exact Ev.neg (by simp) (Ev.done (by simp))
 have h1:=inR_true.1 hi;have h2:=entryOk_term hb;have s1:=varText_size (show i.toNat ≤ 34359738367 by omega);have s2:=varText_size (show t.toNat ≤ 34359738367 by omega)
 have s3 : (strOfNums [d % 256]).size = 1:=by rw [strOfNums_size];rfl
 have s4 : (⟨#[69]⟩ : ByteArray).size = 1:=rfl;have e : varsOf [i,t] = (varText i.toNat ++ varText t.toNat,true):=varsOf_two (inR_true.2 (by omega)) (inR_true.2 (by omega));refine Ev.pos rfl (Ev.bind (Ev.eq (impl_vars_ev [i,t] (by simp)) e) (Ev.pos (by simp only [size_append];omega) (Ev.call rfl (Ev.pos (by simp only [size_append];omega) (Ev.pos (by simp only [size_append];omega) (Ev.done ?_))))))
 simp [ByteArray.append_assoc]
theorem spec_MessageOk_loop (kd fr tt tm ix lt cm : Int) (ok : Bool) (es : List S69) (cf : List Int) (da : ByteArray) (la : Bool) (hx : es.length ≤ 1048576) (hd : ∀ x ∈ es, x.f2.size ≤ 1048576) (hc : cf.length ≤ 1048576) : ∀ (rest : List S69) (n : Nat) (t : Int), es.drop n = rest →
  Ev (fun k => spec_MessageOk.l0 k t (n : Int) kd fr tt tm ix lt cm ok es cf da la) (entriesIn t tm rest && (if kd = 5 then confOk cf && decide (da.size ≤ 60) else decide (cf.length = 0) && (emp da && !la))):=by
 intro rest
 induction rest with
 | nil =>
  intro n t h;have:=drop_nil h;refine Ev.step (fun _ => rfl) ?_;simp only [spec_MessageOk.l0];refine Ev.neg (by omega) (Ev.ite (fun h5 => ?_) (fun h5 => ?_))
  ·refine Ev.bind (spec_ConfOk_ev cf (by omega)) ?_;rw [if_pos h5]
   cases hk : confOk cf
   ·exact Ev.neg (by simp) (Ev.done (by simp))
   ·exact Ev.pos rfl (Ev.done (by simp [entriesIn];omega))
  ·rw [if_neg h5];refine Ev.ite (fun h6 => ?_) (fun h6 => Ev.done ?_)
   ·rw [decide_eq_true (show cf.length = 0 by omega)];refine Ev.ite (fun h7 => Ev.done ?_) (fun h7 => Ev.done ?_)
    ·simp [entriesIn,(emp_iff _).1 h7]
    ·simp [Bool.eq_false_iff.2 (fun e => h7 ((emp_iff _).2 e))]
   ·rw [decide_eq_false (show ¬ cf.length = 0 by omega)];simp
 | cons x r ih =>
  intro n t h;obtain ⟨h1,-,h3⟩:=drop_cons h;have hm : x ∈ es:=List.mem_of_mem_drop (h ▸ List.mem_cons_self);refine Ev.step (fun _ => rfl) ?_;simp only [spec_MessageOk.l0,rdT69_drop h,wrap64_succ (show n ≤ 9223372036854775806 by omega)];refine Ev.pos (by omega) (Ev.pos (by omega) (Ev.bind (spec_EntryOk_ev _ _ _ (hd x hm)) ?_));rw [entriesIn]
  cases hb : entryOk x.f0 x.f1 x.f2
  ·exact Ev.neg (by simp) (Ev.done (by simp))
  ·refine Ev.pos rfl (Ev.ite (fun hc => Ev.done ?_) (fun hc => Ev.ite (fun hc' => Ev.done ?_) (fun hc' => Ev.eq (ih (n + 1) _ h3) ?_)))
   ·simp only [decide_eq_false (show ¬ t ≤ x.f0 by omega)];simp
   ·simp only [decide_eq_false (show ¬ x.f0 ≤ tm by omega)];simp
   ·simp only [decide_eq_true (show t ≤ x.f0 by omega),decide_eq_true (show x.f0 ≤ tm by omega)];simp
theorem spec_MessageOk_ev (kd fr tt tm ix lt cm : Int) (ok : Bool) (es : List S69) (cf : List Int) (da : ByteArray) (la : Bool) (hx : es.length ≤ 1048576) (hd : ∀ x ∈ es, x.f2.size ≤ 1048576) (hc : cf.length ≤ 1048576) : Ev (fun k => spec_MessageOk.f k kd fr tt tm ix lt cm ok es cf da la) (msgOk kd fr tt tm ix lt cm ok es cf da la) := by
 have bad2 : ∀ r,r = false → Ev (fun k => spec_MessageOk.j2 k true kd fr tt tm ix lt cm ok es cf da la) r:=by
  rintro r rfl;refine Ev.step (fun _ => rfl) ?_;simp only [spec_MessageOk.j2];exact Ev.pos trivial (Ev.now _)
 have bad1 : ∀ r,r = false → Ev (fun k => spec_MessageOk.j1 k true kd fr tt tm ix lt cm ok es cf da la) r:=by
  rintro r rfl;refine Ev.step (fun _ => rfl) ?_;simp only [spec_MessageOk.j1];exact Ev.pos trivial (Ev.now _)
 have bad0 : ∀ r,r = false → Ev (fun k => spec_MessageOk.j0 k true kd fr tt tm ix lt cm ok es cf da la) r:=by
  rintro r rfl;refine Ev.step (fun _ => rfl) ?_;simp only [spec_MessageOk.j0];exact Ev.pos trivial (Ev.now _)
 unfold spec_MessageOk.f msgOk
 refine Ev.call (spec_l01In_eq _ _ _) ?_
 cases h1 : inR kd 1 6
 ·exact Ev.neg (by simp) (bad0 _ (by simp))
 refine Ev.pos rfl (Ev.call (spec_l01In_eq _ _ _) ?_)
 cases h2 : inR fr 1 4
 ·exact Ev.neg (by simp) (bad0 _ (by simp))
 refine Ev.pos rfl (Ev.call (spec_l01In_eq _ _ _) ?_)
 cases h3 : inR tt 1 4
 ·exact Ev.neg (by simp) (bad0 _ (by simp))
 refine Ev.pos rfl ?_
 cases h4 : fr == tt
 case true => exact bad0 _ (by simp)
 refine Ev.step (fun _ => rfl) ?_;simp only [spec_MessageOk.j0];refine Ev.neg (by simp) (Ev.call (spec_l01In_eq _ _ _) ?_)
 cases h5 : inR tm 0 100000
 ·exact Ev.neg (by simp) (bad1 _ (by simp))
 refine Ev.pos rfl (Ev.call (spec_l01In_eq _ _ _) ?_)
 cases h6 : inR lt 0 100000
 ·exact Ev.neg (by simp) (bad1 _ (by simp))
 refine Ev.pos rfl (Ev.call (spec_l01In_eq _ _ _) ?_)
 cases h7 : inR ix 0 100000
 ·exact Ev.neg (by simp) (bad1 _ (by simp))
 refine Ev.pos rfl (Ev.call (spec_l01In_eq _ _ _) ?_)
 cases h8 : inR cm 0 100000
 ·exact bad1 _ (by simp)
 refine Ev.step (fun _ => rfl) ?_;simp only [spec_MessageOk.j1];refine Ev.neg (by simp) (Ev.ite (fun h9 => bad2 _ ?_) (fun h9 => ?_))
 ·rw [decide_eq_false (show ¬ es.length ≤ 4 by omega)];simp
 rw [decide_eq_true (show es.length ≤ 4 by omega)]
 have go : decide (es.length = 0 ∨ kd = 3) = true → Ev (fun k => spec_MessageOk.j2 k false kd fr tt tm ix lt cm ok es cf da la) (entriesIn lt tm es && (if kd = 5 then confOk cf && decide (da.size ≤ 60) else decide (cf.length = 0) && (emp da && !la))):=by
  intro hd';refine Ev.step (fun _ => rfl) ?_;simp only [spec_MessageOk.j2];exact Ev.neg (by simp) (spec_MessageOk_loop kd fr tt tm ix lt cm ok es cf da la hx hd hc es 0 lt rfl)
 refine Ev.ite (fun h10 => ?_) (fun h10 => ?_)
 ·by_cases h11 : kd = 3
  ·rw [show (kd != 3) = false by simp [h11]]
   have hD : decide (es.length = 0 ∨ kd = 3) = true:=by simp [h11]
   exact Ev.eq (go hD) (by rw [hD];simp)
  ·rw [show (kd != 3) = true by simp [h11]];refine bad2 _ ?_;rw [decide_eq_false (show ¬ (es.length = 0 ∨ kd = 3) by omega)];simp
 ·have hD : decide (es.length = 0 ∨ kd = 3) = true:=decide_eq_true (by omega);exact Ev.eq (go hD) (by rw [hD];simp)
theorem impl_MessageOk_loop (kd fr tt tm ix lt cm : Int) (ok : Bool) (es : List S69) (cf : List Int) (da : ByteArray) (la : Bool) (hx : es.length ≤ 1048576) (hd : ∀ x ∈ es, x.f2.size ≤ 1048576) (hc : cf.length ≤ 1048576) (h60 : da.size ≤ 60) : ∀ (rest : List S69) (n : Nat) (t : Int), es.drop n = rest →
  Ev (fun k => impl_MessageOk.l0 k t es (es.length : Int) (n : Int) kd fr tt tm ix lt cm ok es cf da la) (decide (rest.length = 0 ∨ kd = 3) && (entriesIn t tm rest && (if kd = 5 then confOk cf && decide (da.size ≤ 60) else decide (cf.length = 0) && (emp da && !la)))):=by
 intro rest
 induction rest with
 | nil =>
  intro n t h;have:=drop_nil h;refine Ev.step (fun _ => rfl) ?_;simp only [impl_MessageOk.l0];refine Ev.neg (by omega) (Ev.ite (fun h5 => ?_) (fun h5 => ?_))
  ·refine Ev.bind (impl_ConfOk_ev cf (by omega)) (Ev.done ?_);rw [if_pos h5,decide_eq_true h60]
   simp [entriesIn]
  ·rw [if_neg h5];refine Ev.ite (fun h6 => ?_) (fun h6 => Ev.done ?_)
   ·rw [decide_eq_true (show cf.length = 0 by omega)];refine Ev.ite (fun h7 => Ev.done ?_) (fun h7 => Ev.done ?_)
    ·simp [entriesIn,(emp_iff _).1 h7]
    ·simp [Bool.eq_false_iff.2 (fun e => h7 ((emp_iff _).2 e))]
   ·rw [decide_eq_false (show ¬ cf.length = 0 by omega)];simp
 | cons x r ih =>
  intro n t h;obtain ⟨h1,-,h3⟩:=drop_cons h;have hm : x ∈ es:=List.mem_of_mem_drop (h ▸ List.mem_cons_self);refine Ev.step (fun _ => rfl) ?_;simp only [impl_MessageOk.l0,rdT69_drop h,wrap64_succ (show n ≤ 9223372036854775806 by omega)];refine Ev.pos (by omega) (Ev.pos (by omega) (Ev.pos (by omega) (Ev.ite (fun hk => ?_) (fun hk => Ev.done ?_))))
  ·refine Ev.bind (impl_EntryOk_ev _ _ _ (hd x hm)) ?_;rw [decide_eq_true (show (x :: r).length = 0 ∨ kd = 3 from Or.inr hk),entriesIn]
   cases hb : entryOk x.f0 x.f1 x.f2
   ·exact Ev.neg (by simp) (Ev.done (by simp))
   ·refine Ev.pos rfl (Ev.call (impl_within_eq _ _ _) ?_)
    cases hi : inR x.f0 t tm
    ·refine Ev.neg (by simp) (Ev.done ?_);have:=inR_false.1 hi
     by_cases h8 : t ≤ x.f0
     ·rw [decide_eq_false (show ¬ x.f0 ≤ tm by omega)];simp
     ·rw [decide_eq_false h8];simp
    ·have:=inR_true.1 hi;refine Ev.pos rfl (Ev.eq (ih (n + 1) _ h3) ?_);rw [decide_eq_true (show r.length = 0 ∨ kd = 3 from Or.inr hk),decide_eq_true (show t ≤ x.f0 by omega),decide_eq_true (show x.f0 ≤ tm by omega)];simp
  ·rw [decide_eq_false (show ¬ ((x :: r).length = 0 ∨ kd = 3) by simp [hk])];simp
theorem impl_MessageOk_ev (kd fr tt tm ix lt cm : Int) (ok : Bool) (es : List S69) (cf : List Int) (da : ByteArray) (la : Bool) (hx : es.length ≤ 1048576) (hd : ∀ x ∈ es, x.f2.size ≤ 1048576) (hc : cf.length ≤ 1048576) : Ev (fun k => impl_MessageOk.f k kd fr tt tm ix lt cm ok es cf da la) (msgOk kd fr tt tm ix lt cm ok es cf da la) := by
 have bad1 : ∀ r,r = false → Ev (fun k => impl_MessageOk.j1 k true kd fr tt tm ix lt cm ok es cf da la) r:=by
  rintro r rfl;refine Ev.step (fun _ => rfl) ?_;simp only [impl_MessageOk.j1];exact Ev.pos trivial (Ev.now _)
 have bad0 : ∀ r,r = false → Ev (fun k => impl_MessageOk.j0 k true kd fr tt tm ix lt cm ok es cf da la) r:=by
  rintro r rfl;refine Ev.step (fun _ => rfl) ?_;simp only [impl_MessageOk.j0];exact Ev.pos trivial (Ev.now _)
 unfold impl_MessageOk.f msgOk
 refine Ev.call (impl_within_eq _ _ _) ?_
 cases h1 : inR kd 1 6
 ·exact Ev.neg (by simp) (bad0 _ (by simp))
 refine Ev.pos rfl (Ev.call (impl_within_eq _ _ _) ?_)
 cases h2 : inR fr 1 4
 ·exact Ev.neg (by simp) (bad0 _ (by simp))
 refine Ev.pos rfl (Ev.call (impl_within_eq _ _ _) ?_)
 cases h3 : inR tt 1 4
 ·exact Ev.neg (by simp) (bad0 _ (by simp))
 refine Ev.pos rfl ?_
 cases h4 : fr == tt
 case true => exact bad0 _ (by simp)
 refine Ev.step (fun _ => rfl) ?_;simp only [impl_MessageOk.j0];refine Ev.neg (by simp) (Ev.call (impl_within_eq _ _ _) ?_)
 cases h5 : inR tm 0 100000
 ·exact Ev.neg (by simp) (bad1 _ (by simp))
 refine Ev.pos rfl (Ev.call (impl_within_eq _ _ _) ?_)
 cases h6 : inR lt 0 100000
 ·exact Ev.neg (by simp) (bad1 _ (by simp))
 refine Ev.pos rfl (Ev.call (impl_within_eq _ _ _) ?_)
 cases h7 : inR ix 0 100000
 ·exact Ev.neg (by simp) (bad1 _ (by simp))
 refine Ev.pos rfl (Ev.call (impl_within_eq _ _ _) ?_)
 cases h8 : inR cm 0 100000
 ·exact Ev.neg (by simp) (bad1 _ (by simp))
 refine Ev.pos rfl (Ev.ite (fun h9 => bad1 _ ?_) (fun h9 => ?_))
 ·rw [decide_eq_false (show ¬ es.length ≤ 4 by omega)];simp
 rw [decide_eq_true (show es.length ≤ 4 by omega)]
 by_cases h10 : da.size ≤ 60
 ·rw [decide_eq_false (show ¬ (da.size : Int) > 60 by omega)];refine Ev.step (fun _ => rfl) ?_;simp only [impl_MessageOk.j1];exact Ev.neg (by simp) (Ev.eq (impl_MessageOk_loop kd fr tt tm ix lt cm ok es cf da la hx hd hc h10 es 0 lt rfl) (by simp))
 ·rw [decide_eq_true (show (da.size : Int) > 60 by omega)];refine bad1 _ ?_;have he : emp da = false:=Bool.eq_false_iff.2 (fun e => h10 (by have:=emp_true.1 e;omega))
  by_cases h5 : kd = 5
  ·rw [if_pos h5,decide_eq_false h10];simp
  ·rw [if_neg h5,he];simp
theorem spec_ReadVar_loop (s : ByteArray) (a : Nat) (hs : s.size ≤ 1152921504606846976) (ha : a ≤ s.size) : ∀ (k : Nat) (rest done : List Int) (i : Nat), i + k = 5 → done.length = i → (bytesOf s).drop a = done ++ rest →
  Ev (fun K => spec_ReadVar.l0 K s (a : Int) (val done : Int) ((128 ^ i : Nat) : Int) ((a + i : Nat) : Int))
   (match varSeg k rest with|none => (0,0,false)|some bs => if val (done ++ bs) ≤ 1000000000 ∧ varL (val (done ++ bs)) = done ++ bs then ((val (done ++ bs) : Int),((a + (done ++ bs).length : Nat) : Int),true) else (0,0,false)):=by
 intro k;have hz:=bytesOf_length s
 have no : ∀ (x7 x8 x9 : Int) r,r = (0,0,false) → Ev (fun K => spec_ReadVar.j1 K s (a : Int) x7 x8 x9 false) r:=by
  rintro x7 x8 x9 r rfl;refine Ev.step (fun _ => rfl) ?_;simp only [spec_ReadVar.j1];exact Ev.neg (by simp) (Ev.now _)
 induction k with
 | zero =>
  intro rest done i hi hd hr;refine Ev.step (fun _ => rfl) ?_;simp only [spec_ReadVar.l0,wrap64_id (show -9223372036854775808 ≤ (a : Int) + 5 by omega) (show (a : Int) + 5 ≤ 9223372036854775807 by omega)];refine Ev.ite (fun _ => ?_) (fun _ => no _ _ _ _ rfl);rw [decide_eq_false (by omega)];exact no _ _ _ _ rfl
 | succ k ih =>
  intro rest done i hi hd hr
  have hl : done.length + rest.length = s.size - a:=by rw [← List.length_append,← hr,List.length_drop,hz]
  cases rest with
  | nil =>
   refine Ev.step (fun _ => rfl) ?_;simp only [spec_ReadVar.l0];rw [List.length_nil] at hl;exact Ev.neg (by omega) (no _ _ _ _ rfl)
  | cons b t =>
   have hbt : bt s ((a + i : Nat) : Int) = b:=by
    rw [← rd_bytesOf,rd_nat]
    have e : (bytesOf s).drop (a + i) = b :: t:=by rw [← List.drop_drop,hr,List.drop_append_of_le_length (by omega),← hd,List.drop_length,List.nil_append]
    exact (drop_cons e).2.1 0
   have hb:=bytesOf_range s b (by
    have : b ∈ (bytesOf s).drop a:=by rw [hr];simp
    exact List.mem_of_mem_drop this)
   rw [List.length_cons] at hl;have hsc:=scale_bound (show i ≤ 5 by omega);have hvd:=val_lt done;rw [hd] at hvd;have e1 : Int.tmod (wrap64 b) 128 = b % 128:=byte_mod hb.1 hb.2;have hpos : 0 < 128 ^ i:=Nat.pow_pos (by omega)
   have hmul : (b % 128) * ((128 ^ i : Nat) : Int) = (((b % 128).toNat * 128 ^ i : Nat) : Int):=by
    rw [Int.natCast_mul,Int.toNat_of_nonneg (by omega)]
   have hmb : (b % 128).toNat * 128 ^ i ≤ 127 * 128 ^ i:=Nat.mul_le_mul_right _ (by omega)
   have e2 : wrap64 ((val done : Int) + wrap64 (Int.tmod (wrap64 b) 128 * ((128 ^ i : Nat) : Int))) = (val (done ++ [b]) : Int):=by
    rw [e1,hmul,wrap64_id (n:=(((b % 128).toNat * 128 ^ i : Nat) : Int)) (by omega) (by omega),wrap64_id (by omega) (by omega),val_append,hd];rw [show val [b] = (b % 128).toNat by simp [val],Nat.mul_comm (128 ^ i)]
    omega
   have hval : val (done ++ [b]) < 128 ^ (i + 1):=by
    have:=val_lt (done ++ [b])
    rwa [List.length_append,hd] at this
   have hsc':=scale_bound (show i + 1 ≤ 5 by omega);refine Ev.step (fun _ => rfl) ?_;simp only [spec_ReadVar.l0,wrap64_id (show -9223372036854775808 ≤ (a : Int) + 5 by omega) (show (a : Int) + 5 ≤ 9223372036854775807 by omega)];rw [decide_eq_true (show ((a + i : Nat) : Int) < (a : Int) + 5 by omega)];refine Ev.pos (by omega) (Ev.step (fun _ => rfl) ?_);simp only [spec_ReadVar.j1,hbt,e2,wrap64_succ (show a + i ≤ 9223372036854775806 by omega)];refine Ev.pos trivial (Ev.pos (by omega) (Ev.pos (by omega) (Ev.ite (fun hlt => ?_) (fun hge => ?_))))
   ·rw [varSeg,if_pos hlt];simp only [];refine Ev.ite (fun hbig => Ev.done ?_) (fun hsmall => ?_)
    ·rw [if_neg (by omega)]
    ·have hex : (s.extract (a : Int).toNat ((a + i + 1 : Nat) : Int).toNat).toList = (strOfNums (done ++ [b])).toList:=by
      rw [toList_iff,bytesOf_extract,Int.toNat_natCast,Int.toNat_natCast,List.drop_take,hr,bytesOf_strOfNums _ (by
       intro x hx;refine bytesOf_range s x ?_
       have : x ∈ (bytesOf s).drop a:=by rw [hr];rcases List.mem_append.1 hx with h|h <;> simp_all
       exact List.mem_of_mem_drop this)]
      rw [show a + i + 1 - a = done.length + 1 by omega];rw [List.take_append,List.take_of_length_le (by omega)]
      simp
     refine Ev.bind (spec_l01Var_nat _ (by omega)) (Ev.pos (by omega) (Ev.pos (by omega) (Ev.pos (by omega) ?_)));rw [hex]
     have hiff : (varText (val (done ++ [b]))).toList = (strOfNums (done ++ [b])).toList ↔ varL (val (done ++ [b])) = done ++ [b]:=by
      rw [toList_iff,bytesOf_varText,bytesOf_strOfNums _ (by
       intro x hx;refine bytesOf_range s x ?_
       have : x ∈ (bytesOf s).drop a:=by rw [hr];rcases List.mem_append.1 hx with h|h <;> simp_all
       exact List.mem_of_mem_drop this)]
     refine Ev.ite (fun hc => Ev.done ?_) (fun hc => Ev.done ?_)
     ·rw [if_pos ⟨by omega,hiff.1 hc⟩,List.length_append,hd];rfl
     ·rw [if_neg (fun h => hc (hiff.2 h.2))]
   ·have ih:=ih t (done ++ [b]) (i + 1) (by omega) (by simp [hd]) (by rw [hr];simp);rw [varSeg,if_neg hge]
    have e3 : wrap64 (((128 ^ i : Nat) : Int) * 128) = ((128 ^ (i + 1) : Nat) : Int):=by
     rw [wrap64_id (by omega) (by omega),Nat.pow_succ,Int.natCast_mul];rfl
    rw [e3];refine Ev.eq ih ?_
    cases varSeg k t with
    | none => rfl
    | some bs => simp only [Option.map_some,List.append_assoc,List.cons_append,List.nil_append]
theorem spec_ReadVar_ev (s : ByteArray) (a : Int) (hs : s.size ≤ 1152921504606846976) : Ev (fun k => spec_ReadVar.f k s a) (readVar s a) := by
 unfold spec_ReadVar.f readVar
 refine Ev.call (spec_l01In_eq _ _ _) ?_
 cases hb : inR a 0 s.size
 ·exact Ev.neg (by simp) (Ev.done (by simp))
 ·have hr:=inR_true.1 hb;obtain ⟨n,rfl⟩:=Int.eq_ofNat_of_zero_le hr.1;refine Ev.pos rfl (Ev.eq (spec_ReadVar_loop s n hs (by omega) 5 ((bytesOf s).drop n) [] 0 rfl rfl rfl) ?_);rw [if_pos rfl,Int.toNat_natCast,readVarL]
  cases varSeg 5 ((bytesOf s).drop n) with
  | none => rfl
  | some bs =>
   simp only [List.nil_append]
   by_cases hc : val bs ≤ 1000000000 ∧ varL (val bs) = bs
   ·rw [if_pos hc,if_pos hc];simp
   ·rw [if_neg hc,if_neg hc]
theorem impl_ReadVar_loop (s : ByteArray) (a : Nat) (hs : s.size ≤ 1152921504606846976) (ha : a ≤ s.size) : ∀ (k : Nat) (rest done : List Int) (i : Nat), i + k = 5 → done.length = i → (bytesOf s).drop a = done ++ rest → (∀ bs, varSeg k rest = some bs → varSeg 5 ((bytesOf s).drop a) = some (done ++ bs)) →
  Ev (fun K => impl_ReadVar.l0 K s (a : Int) (val done : Int) (i : Int))
   (match varSeg k rest with|none => (0,0,false)|some bs => if val (done ++ bs) ≤ 1000000000 ∧ varL (val (done ++ bs)) = done ++ bs then ((val (done ++ bs) : Int),((a + (done ++ bs).length : Nat) : Int),true) else (0,0,false)):=by
 intro k;have hz:=bytesOf_length s
 have no : ∀ (x7 x8 : Int) r,r = (0,0,false) → Ev (fun K => impl_ReadVar.j1 K s (a : Int) x7 x8 false) r:=by
  rintro x7 x8 r rfl;refine Ev.step (fun _ => rfl) ?_;simp only [impl_ReadVar.j1];exact Ev.neg (by simp) (Ev.now _)
 induction k with
 | zero =>
  intro rest done i hi hd hr _;refine Ev.step (fun _ => rfl) ?_;simp only [impl_ReadVar.l0];exact Ev.neg (by omega) (no _ _ _ rfl)
 | succ k ih =>
  intro rest done i hi hd hr hseg
  have hl : done.length + rest.length = s.size - a:=by rw [← List.length_append,← hr,List.length_drop,hz]
  cases rest with
  | nil =>
   refine Ev.step (fun _ => rfl) ?_;simp only [impl_ReadVar.l0];rw [List.length_nil] at hl;refine Ev.pos (by omega) ?_;rw [wrap64_id (by omega) (by omega),decide_eq_false (by omega)];exact no _ _ _ rfl
  | cons b t =>
   have e0 : wrap64 ((a : Int) + (i : Int)) = ((a + i : Nat) : Int):=by rw [wrap64_id (by omega) (by omega)];omega
   have hbt : bt s ((a + i : Nat) : Int) = b:=by
    rw [← rd_bytesOf,rd_nat]
    have e : (bytesOf s).drop (a + i) = b :: t:=by rw [← List.drop_drop,hr,List.drop_append_of_le_length (by omega),← hd,List.drop_length,List.nil_append]
    exact (drop_cons e).2.1 0
   have hb:=bytesOf_range s b (by
    have : b ∈ (bytesOf s).drop a:=by rw [hr];simp
    exact List.mem_of_mem_drop this)
   rw [List.length_cons] at hl;have hsc:=scale_bound (show i ≤ 5 by omega);have hvd:=val_lt done;rw [hd] at hvd;have e1 : Int.tmod (wrap64 b) 128 = b % 128:=byte_mod hb.1 hb.2
   have hmul : (b % 128) * ((128 ^ i : Nat) : Int) = (((b % 128).toNat * 128 ^ i : Nat) : Int):=by
    rw [Int.natCast_mul,Int.toNat_of_nonneg (by omega)]
   have hmb : (b % 128).toNat * 128 ^ i ≤ 127 * 128 ^ i:=Nat.mul_le_mul_right _ (by omega);have hpos : 0 < 128 ^ i:=Nat.pow_pos (by omega);have e7 : wrap64 (7 * (i : Int)) = 7 * (i : Int):=wrap64_id (by omega) (by omega)
   have hshl : shl .i64 (b % 128) (7 * (i : Int)) = (b % 128) * ((128 ^ i : Nat) : Int):=by
    have hp : (2 : Int) ^ min (7 * (i : Int)).toNat (IntKind.bits .i64) = ((128 ^ i : Nat) : Int):=by
     rcases i with _|_|_|_|_|i
     ·rfl
     ·rfl
     ·rfl
     ·rfl
     ·rfl
     ·omega
    unfold shl
    rw [hp,i64_w];exact wrap64_id (by omega) (by omega)
   have e2 : wrap64 ((val done : Int) + shl .i64 (Int.tmod (wrap64 b) 128) (wrap64 (7 * (i : Int)))) = (val (done ++ [b]) : Int):=by
    rw [e1,e7,hshl,hmul,wrap64_id (by omega) (by omega),val_append,hd];rw [show val [b] = (b % 128).toNat by simp [val],Nat.mul_comm (128 ^ i)]
    omega
   clear hsc hvd hmul hmb hpos hshl e1;refine Ev.step (fun _ => rfl) ?_;simp only [impl_ReadVar.l0,e0];refine Ev.pos (by omega) ?_;rw [decide_eq_true (show ((a + i : Nat) : Int) < (s.size : Int) by omega)];refine Ev.step (fun _ => rfl) ?_;simp only [impl_ReadVar.j1,e0,hbt,e2,wrap64_succ (show i ≤ 9223372036854775806 by omega),wrap64_succ (show a + i ≤ 9223372036854775806 by omega)];rw [wrap64_id (n:=b) (by omega) (by omega)];refine Ev.pos trivial (Ev.pos (by omega) (Ev.pos (by omega) (Ev.pos (by rw [e7];omega) (Ev.ite (fun hlt => ?_) (fun hge => ?_)))))
   ·have hsg:=hseg [b] (by rw [varSeg,if_pos hlt]);have hck:=varSeg_check (fun x hx => bytesOf_range s x (List.mem_of_mem_drop hx)) hsg;rw [varSeg,if_pos hlt];simp only []
    by_cases hbig : val (done ++ [b]) ≤ 1000000000
    ·refine Ev.bind (impl_VarText_nat _ hbig) (Ev.pos rfl ?_);simp only [varText,strOfNums_size]
     have hlen : (done ++ [b]).length = i + 1:=by simp [hd]
     refine Ev.ite (fun hc => Ev.done ?_) (fun hc => Ev.done ?_)
     ·rw [if_pos ⟨hbig,hck.1 (by omega)⟩,hlen];rfl
     ·rw [if_neg (fun h => hc (by have:=hck.2 h.2;omega))]
    ·refine Ev.bind (Ev.eq (impl_VarText_ev _) (varTextOf_no (show ¬ ((val (done ++ [b]) : Int) ≤ 1000000000) by omega))) ?_;refine Ev.neg (by simp) (Ev.done ?_);rw [if_neg (fun h => hbig h.1)]
   ·have ih:=ih t (done ++ [b]) (i + 1) (by omega) (by simp [hd]) (by rw [hr];simp) (fun bs hbs => by
     have:=hseg (b :: bs) (by rw [varSeg,if_neg hge,hbs];rfl)
     rw [this];simp)
    rw [varSeg,if_neg hge];refine Ev.eq ih ?_
    cases varSeg k t with
    | none => rfl
    | some bs => simp only [Option.map_some,List.append_assoc,List.cons_append,List.nil_append]
theorem impl_ReadVar_ev (s : ByteArray) (a : Int) (hs : s.size ≤ 1152921504606846976) : Ev (fun k => impl_ReadVar.f k s a) (readVar s a) := by
 unfold impl_ReadVar.f readVar
 refine Ev.call (impl_within_eq _ _ _) ?_
 cases hb : inR a 0 s.size
 ·exact Ev.neg (by simp) (Ev.done (by simp))
 ·have hr:=inR_true.1 hb;obtain ⟨n,rfl⟩:=Int.eq_ofNat_of_zero_le hr.1;refine Ev.pos rfl (Ev.eq (impl_ReadVar_loop s n hs (by omega) 5 ((bytesOf s).drop n) [] 0 rfl rfl rfl (fun bs h => h)) ?_);rw [if_pos rfl,Int.toNat_natCast,readVarL]
  cases varSeg 5 ((bytesOf s).drop n) with
  | none => rfl
  | some bs =>
   simp only [List.nil_append]
   by_cases hc : val bs ≤ 1000000000 ∧ varL (val bs) = bs
   ·rw [if_pos hc,if_pos hc];simp
   ·rw [if_neg hc,if_neg hc]
theorem spec_l05Var_ev (s : ByteArray) (a : Int) (bad : Bool) (hs : s.size ≤ 1152921504606846976) : Ev (fun k => spec_l05Var.f k s a bad) (curNum s a bad) := by
 unfold spec_l05Var.f curNum
 refine Ev.bind (spec_ReadVar_ev s a hs) (Ev.ite (fun h => Ev.done (by rw [if_pos h])) (fun h => Ev.ite (fun h' => Ev.done ?_) (fun h' => Ev.done ?_)))
 ·rw [if_neg h,if_pos h']
 ·rw [if_neg h,if_neg h']
theorem impl_reader_num_ev (s : ByteArray) (a : Int) (bad : Bool) (hs : s.size ≤ 1152921504606846976) : Ev (fun k => impl_reader_num.f k s a bad) (curNum s a bad) := by
 unfold impl_reader_num.f curNum
 refine Ev.bind (impl_ReadVar_ev s a hs) (Ev.ite (fun h => Ev.done (by rw [if_pos h])) (fun h => Ev.ite (fun h' => Ev.done ?_) (fun h' => Ev.done ?_)))
 ·rw [if_neg h,if_pos h']
 ·rw [if_neg h,if_neg h']
theorem spec_l05Take_eq (s : ByteArray) (a n : Int) (bad : Bool) (hs : s.size ≤ 1152921504606846976) (h0 : 0 ≤ a) (h1 : a ≤ s.size) (hn : 0 ≤ n) (hn' : n ≤ 1152921504606846976) : spec_l05Take.f s a bad n = some (curTake s a bad n) := by
 unfold spec_l05Take.f curTake
 by_cases h : bad = true
 ·rw [if_pos h,if_pos h]
 ·rw [if_neg h,if_neg h,wrap64_id (n:=(s.size : Int) - a) (by omega) (by omega),wrap64_id (n:=a + n) (by omega) (by omega),show a + n - n = a by omega,wrap64_id (n:=a) (by omega) (by omega)]
  by_cases hc : n > (s.size : Int) - a
  ·rw [if_pos hc,if_pos hc]
  ·rw [if_neg hc,if_neg hc,if_pos (by omega),if_pos (by omega),if_pos (by omega)]
theorem impl_reader_byte_eq (s : ByteArray) (a : Int) (bad : Bool) (hs : s.size ≤ 1152921504606846976) (h0 : 0 ≤ a) (h1 : a ≤ s.size) : impl_reader_byte.f s a bad = some (curByte s a bad) := by
 unfold impl_reader_byte.f curByte
 by_cases h : bad = true
 ·rw [if_pos h,if_pos h]
 ·rw [if_neg h,if_neg h,wrap64_id (n:=a + 1) (by omega) (by omega),show a + 1 - 1 = a by omega,wrap64_id (n:=a) (by omega) (by omega)]
  by_cases hc : a ≥ (s.size : Int)
  ·rw [if_pos hc,if_pos hc]
  ·have:=bt_range s a;rw [if_neg hc,if_neg hc,if_pos (by omega),if_pos (by omega),wrap64_id (n:=bt s a) (by omega) (by omega)]
theorem spec_ReadEntry_ev (s : ByteArray) (hs : s.size ≤ 1048576) : Ev (fun k => spec_ReadEntry.f k s) (readEntry s) := by
 unfold spec_ReadEntry.f readEntry
 refine Ev.call (spec_l05Take_eq s 0 1 false (by omega) (by omega) (by omega) (by omega) (by omega)) ?_
 by_cases hz : s.size = 0
 ·rw [if_pos hz]
  have e : curTake s 0 false 1 = (⟨#[]⟩,s,0,true):=by
   unfold curTake;rw [if_neg (by simp),if_pos (by omega)]
  simp only [e];refine Ev.bind (spec_l05Var_ev s 0 true (by omega)) (Ev.bind (spec_l05Var_ev s 0 true (by omega)) ?_);simp only [curNum_isbad];exact Ev.call (spec_l05Take_eq s 0 1 true (by omega) (by omega) (by omega) (by omega) (by omega)) (Ev.pos rfl (Ev.now _))
 rw [if_neg hz]
 have e : curTake s 0 false 1 = (s.extract 0 1,s,1,false):=by
  unfold curTake;rw [if_neg (by simp),if_neg (by omega)];rfl
 simp only [e];refine Ev.bind (spec_l05Var_ev s 1 false (by omega)) ?_;have hp1:=curNum_place (s:=s) (a:=1) (bad:=false) (by omega) (by omega);simp only [curNum_text];refine Ev.bind (spec_l05Var_ev s _ _ (by omega)) ?_;have hp2:=curNum_place (s:=s) (a:=(curNum s 1 false).2.2.1) (bad:=(curNum s 1 false).2.2.2) hp1.1 hp1.2;simp only [curNum_text];refine Ev.call (spec_l05Take_eq s _ 1 _ (by omega) hp2.1 hp2.2 (by omega) (by omega)) ?_
 cases hb : (curNum s (curNum s 1 false).2.2.1 (curNum s 1 false).2.2.2).2.2.2
 case true =>
  rw [if_pos rfl];exact Ev.pos rfl (Ev.now _)
 rw [if_neg (by simp)]
 by_cases hc : (curNum s (curNum s 1 false).2.2.1 (curNum s 1 false).2.2.2).2.2.1 ≥ (s.size : Int)
 ·rw [if_pos hc]
  have e : ∀ a,a ≥ (s.size : Int) → curTake s a false 1 = (⟨#[]⟩,s,a,true):=by
   intro a ha
   unfold curTake;rw [if_neg (by simp),if_pos (by omega)]
  rw [e _ hc];exact Ev.pos rfl (Ev.now _)
 rw [if_neg hc];obtain ⟨hb1,hr2⟩:=curNum_good hb;obtain ⟨-,hr1⟩:=curNum_good hb1;generalize (curNum s (curNum s 1 false).2.2.1 (curNum s 1 false).2.2.2).1 = t at *;generalize (curNum s (curNum s 1 false).2.2.1 (curNum s 1 false).2.2.2).2.2.1 = b at *;generalize (curNum s 1 false).2.2.1 = a at *;generalize (curNum s 1 false).1 = i at *;have hby:=entry_bytes hr1 hr2 (by omega)
 have e : curTake s b false 1 = (s.extract b.toNat (b + 1).toNat,s,b + 1,false):=by
  unfold curTake;rw [if_neg (by simp),if_neg (by omega)]
 rw [e];have hk:=bt_range s b
 have hone : bytesOf (s.extract b.toNat (b + 1).toNat) = [bt s b]:=by
  have e3:=drop_bt (s:=s) (n:=b.toNat) (by omega);rw [Int.toNat_of_nonneg (by omega)] at e3;rw [bytesOf_extract,List.drop_take,e3,show (b + 1).toNat - b.toNat = 1 by omega];rfl
 have hone2 : (s.extract b.toNat (b + 1).toNat).size = 1:=by rw [← bytesOf_length,hone];rfl
 have hone3 : bt (s.extract b.toNat (b + 1).toNat) 0 = bt s b:=by rw [← rd_bytesOf,hone];rfl
 simp only [hone2,hone3];refine Ev.neg (by simp) (Ev.pos (by omega) (Ev.pos (by omega) (Ev.pos (by omega) ?_)));rw [wrap64_id (n:=bt s b) (by omega) (by omega)]
 have hds : (s.extract (b + 1).toNat s.size).size ≤ 1048576:=by rw [← bytesOf_length,bytesOf_dropTo,List.length_drop,bytesOf_length];omega
 refine Ev.bind (spec_EntryText_ev i t (bt s b) _ hds) ?_
 unfold entryText
 cases hok : (entryOk t (bt s b) (s.extract (b + 1).toNat s.size) && inR i 1 100000)
 ·rw [if_neg (show ¬ (false = true) by simp)];refine Ev.neg (by simp) (Ev.done ?_);rw [if_neg (fun h => Bool.false_ne_true h.2)];rfl
 ·rw [if_pos (show true = true from rfl)];refine Ev.pos rfl ?_
  have hiff : ((⟨#[69]⟩ : ByteArray) ++ varText i.toNat ++ varText t.toNat ++ strOfNums [bt s b % 256] ++ s.extract (b + 1).toNat s.size).toList = s.toList ↔ bt s 0 = 69:=by
   rw [toList_iff,entryText_bytes hk,hby]
   constructor
   ·intro h;exact (List.cons.inj h).1.symm
   ·intro h;rw [h]
  refine Ev.ite (fun hc => Ev.done ?_) (fun hc => Ev.done ?_)
  ·rw [if_pos ⟨hiff.1 hc,rfl⟩]
  ·rw [if_neg (fun h => hc (hiff.2 h.1))];rfl
theorem impl_ReadEntry_ev (s : ByteArray) (hs : s.size ≤ 1048576) : Ev (fun k => impl_ReadEntry.f k s) (readEntry s) := by
 have bad : ∀ x7 x1 x2 x3 x4 x5 x6 r,r = noEntry → Ev (fun k => impl_ReadEntry.j0 k s x7 true x1 x2 x3 x4 x5 x6) r:=by
  rintro x7 x1 x2 x3 x4 x5 x6 r rfl;refine Ev.step (fun _ => rfl) ?_;simp only [impl_ReadEntry.j0];exact Ev.pos trivial (Ev.now _)
 unfold impl_ReadEntry.f readEntry
 refine Ev.call (impl_reader_byte_eq s 0 false (by omega) (by omega) (by omega)) ?_
 by_cases hz : s.size = 0
 ·rw [if_pos hz]
  have e : curByte s 0 false = (0,s,0,true):=by
   unfold curByte;rw [if_neg (by simp),if_pos (by omega)]
  simp only [e];refine Ev.bind (impl_reader_num_ev s 0 true (by omega)) (Ev.bind (impl_reader_num_ev s 0 true (by omega)) ?_);simp only [curNum_isbad];exact Ev.call (impl_reader_byte_eq s 0 true (by omega) (by omega) (by omega)) (Ev.pos rfl (bad _ _ _ _ _ _ _ _ rfl))
 rw [if_neg hz]
 have e : curByte s 0 false = (bt s 0,s,1,false):=by
  unfold curByte;rw [if_neg (by simp),if_neg (by omega)];rfl
 simp only [e];refine Ev.bind (impl_reader_num_ev s 1 false (by omega)) ?_;have hp1:=curNum_place (s:=s) (a:=1) (bad:=false) (by omega) (by omega);simp only [curNum_text];refine Ev.bind (impl_reader_num_ev s _ _ (by omega)) ?_;have hp2:=curNum_place (s:=s) (a:=(curNum s 1 false).2.2.1) (bad:=(curNum s 1 false).2.2.2) hp1.1 hp1.2;simp only [curNum_text];refine Ev.call (impl_reader_byte_eq s _ _ (by omega) hp2.1 hp2.2) ?_
 cases hb : (curNum s (curNum s 1 false).2.2.1 (curNum s 1 false).2.2.2).2.2.2
 case true =>
  rw [if_pos rfl];exact Ev.pos rfl (bad _ _ _ _ _ _ _ _ rfl)
 rw [if_neg (by simp)]
 by_cases hc : (curNum s (curNum s 1 false).2.2.1 (curNum s 1 false).2.2.2).2.2.1 ≥ (s.size : Int)
 ·rw [if_pos hc]
  have e : ∀ a,a ≥ (s.size : Int) → curByte s a false = (0,s,a,true):=by
   intro a ha
   unfold curByte;rw [if_neg (by simp),if_pos (by omega)]
  rw [e _ hc];exact Ev.pos rfl (bad _ _ _ _ _ _ _ _ rfl)
 rw [if_neg hc];generalize (curNum s (curNum s 1 false).2.2.1 (curNum s 1 false).2.2.2).1 = t at *;generalize (curNum s (curNum s 1 false).2.2.1 (curNum s 1 false).2.2.2).2.2.1 = b at *;generalize (curNum s 1 false).2.2.1 = a at *;generalize (curNum s 1 false).1 = i at *
 have e : curByte s b false = (bt s b,s,b + 1,false):=by
  unfold curByte;rw [if_neg (by simp),if_neg (by omega)]
 rw [e]
 have hds : (s.extract (b + 1).toNat s.size).size ≤ 1048576:=by rw [← bytesOf_length,bytesOf_dropTo,List.length_drop,bytesOf_length];omega
 refine Ev.neg (by simp) ?_
 by_cases hl : bt s 0 = 69
 ·rw [show (bt s 0 != 69) = false by simp [hl]];refine Ev.step (fun _ => rfl) ?_;simp only [impl_ReadEntry.j0];refine Ev.neg (by simp) (Ev.pos (by omega) (Ev.pos (by omega) (Ev.bind (impl_EntryOk_ev t (bt s b) _ hds) ?_)))
  cases h1 : entryOk t (bt s b) (s.extract (b + 1).toNat s.size)
  ·exact Ev.neg (by simp) (Ev.done (by simp [noEntry]))
  ·refine Ev.pos rfl (Ev.call (impl_within_eq _ _ _) ?_)
   cases h2 : inR i 1 100000
   ·exact Ev.neg (by simp) (Ev.done (by simp [noEntry]))
   ·exact Ev.pos rfl (Ev.done (by simp [hl]))
 ·rw [show (bt s 0 != 69) = true by simp [hl],if_neg (fun h => hl h.1)];exact bad _ _ _ _ _ _ _ _ rfl
theorem spec_l05ReadShort_ev (s : ByteArray) (a : Int) (bad : Bool) (hs : s.size ≤ 1152921504606846976) (h0 : 0 ≤ a) (h1 : a ≤ s.size) : Ev (fun k => spec_l05ReadShort.f k s a bad) (curShort s a bad) := by
 unfold spec_l05ReadShort.f curShort
 have hp:=curNum_place (s:=s) (a:=a) (bad:=bad) h0 h1;have hn:=curNum_nonneg s a bad;refine Ev.bind (spec_l05Var_ev s a bad hs) ?_;simp only [curNum_text];exact Ev.call (spec_l05Take_eq s _ _ _ hs hp.1 hp.2 hn.1 (by omega)) (Ev.now _)
theorem impl_ReadShort_ev (s : ByteArray) (a : Int) (hs : s.size ≤ 1152921504606846976) : Ev (fun k => impl_ReadShort.f k s a) (readShort s a) := by
 unfold impl_ReadShort.f readShort
 refine Ev.bind (impl_ReadVar_ev s a hs) (Ev.ite (fun h => ?_) (fun h => Ev.done (by rw [if_neg h])));have hr:=readVar_true (s:=s) (a:=a) (n:=(readVar s a).1) (b:=(readVar s a).2.1) (by rw [← h]);rw [if_pos h,wrap64_id (n:=(s.size : Int) - (readVar s a).2.1) (by omega) (by omega)];refine Ev.ite (fun h2 => Ev.done (by rw [if_pos h2])) (fun h2 => Ev.ite (fun h3 => Ev.done (by rw [if_neg h2,if_pos h3])) (fun h3 => ?_));rw [if_neg h2,if_neg h3,wrap64_id (n:=(readVar s a).2.1 + (readVar s a).1) (by omega) (by omega)];exact Ev.pos (by omega) (Ev.pos (by omega) (Ev.pos (by omega) (Ev.now _)))
theorem impl_reader_text_ev (s : ByteArray) (a : Int) (bad : Bool) (hs : s.size ≤ 1152921504606846976) : Ev (fun k => impl_reader_text.f k s a bad) (curText s a bad) := by
 unfold impl_reader_text.f curText
 refine Ev.bind (impl_ReadShort_ev s a hs) (Ev.ite (fun h => Ev.done (by rw [if_pos h])) (fun h => Ev.ite (fun h' => Ev.done ?_) (fun h' => Ev.done ?_)))
 ·rw [if_neg h,if_pos h']
 ·rw [if_neg h,if_neg h']
def Cur (l : List Int) (i : Int) : Prop := 0 ≤ i ∧ i ≤ l.length
theorem Cur.zero (l : List Int) : Cur l 0 := ⟨Int.le_refl _, by omega⟩
theorem and255 (x : Int) : 0 ≤ Go.bits .and .i64 x 255 ∧ Go.bits .and .i64 x 255 ≤ 255 := by
 have h : (BitVec.ofInt 64 x &&& BitVec.ofInt 64 255).toNat ≤ 255:=by
  rw [BitVec.toNat_and];exact Nat.le_trans Nat.and_le_right (by decide)
 have e : Go.bits .and .i64 x 255 = (((BitVec.ofInt 64 x &&& BitVec.ofInt 64 255).toNat : Nat) : Int):=by
  show IntKind.i64.wrap (((BitVec.ofInt 64 x &&& BitVec.ofInt 64 255).toNat : Nat) : Int) = _;rw [IntKind.wrap_i64]
  omega
 rw [e];omega
theorem rd_mem {xs : List Int} {b : Int} (h0 : 0 ≤ b) (h1 : b < xs.length) : rd xs b ∈ xs := by
 obtain ⟨n,rfl⟩:=Int.eq_ofNat_of_zero_le h0;rw [rd_nat,List.getD_eq_getElem?_getD,List.getElem?_eq_getElem (by omega)]
 simp
theorem rdOf_mem {α : Type} {z : α} {xs : List α} {b : Int} (h0 : 0 ≤ b) (h1 : b < xs.length) : rdOf z xs b ∈ xs := by
 obtain ⟨n,rfl⟩:=Int.eq_ofNat_of_zero_le h0;rw [rdOf,Int.toNat_natCast,List.getD_eq_getElem?_getD,List.getElem?_eq_getElem (by omega)]
 simp
theorem spec_l01New_loop (l : List Int) (hl : l.length ≤ 140737488351232) : ∀ (m n : Nat) (y : Int), l.length - n ≤ m → n ≤ l.length → To (fun k => spec_l01New.l0 k l y (n : Int)) (fun r => ∃ z, r = (l, 0, z)) := by
 intro m
 induction m with
 | zero =>
  intro n y h h1;refine To.step (fun _ => rfl) ?_;simp only [spec_l01New.l0];exact To.neg (by omega) (To.now ⟨_,rfl⟩)
 | succ m ih =>
  intro n y h h1;refine To.step (fun _ => rfl) ?_;simp only [spec_l01New.l0,wrap64_succ (show n ≤ 9223372036854775806 by omega)];exact To.ite (fun h2 => To.ite (fun h3 => To.pos (by omega) (ih (n + 1) _ (by omega) (by omega))) (fun _ => To.now ⟨_,rfl⟩)) (fun _ => To.now ⟨_,rfl⟩)
theorem spec_l01New_to (l : List Int) (hl : l.length ≤ 140737488351232) : To (fun k => spec_l01New.f k l) (fun r => ∃ z, r = (l, 0, z)) :=
 spec_l01New_loop l hl l.length 0 _ (by omega) (by omega)
theorem spec_l01Byte_to {l : List Int} (hl : l.length ≤ 140737488351232) {i : Int} (y : Int) (h : Cur l i) : To (fun _ => spec_l01Byte.f l i y) (fun r => 0 ≤ r.1 ∧ r.1 ≤ 255 ∧ Cur l r.2.1) := by
 unfold spec_l01Byte.f
 refine To.ite (fun c => To.pos h.1 (To.now ⟨(and255 _).1,(and255 _).2,?_⟩)) (fun c => To.now ⟨(and255 _).1,(and255 _).2,h⟩);have:=h.1;simp only [Cur];rw [wrap64_id (by omega) (by omega)]
 omega
theorem spec_l01Below_to {l : List Int} (hl : l.length ≤ 140737488351232) {i : Int} (y : Int) (h : Cur l i) (n : Int) : To (fun _ => spec_l01Below.f l i y n) (fun r => 0 ≤ r.1 ∧ (0 < n → r.1 < n) ∧ Cur l r.2.1) := by
 unfold spec_l01Below.f
 refine To.ite (fun c => To.now ⟨Int.le_refl _,fun c' => by omega,h⟩) (fun c => To.ite (fun _ => ?_) (fun _ => ?_))
 ·exact To.bind (spec_l01Byte_to hl y h) (fun r p => To.neg (by omega) (To.now ⟨Int.tmod_nonneg _ p.1,fun c => Int.tmod_lt_of_pos _ c,p.2.2⟩))
 ·refine To.bind (spec_l01Byte_to hl y h) (fun r1 p1 => To.bind (spec_l01Byte_to hl _ p1.2.2) (fun r2 p2 => To.bind (spec_l01Byte_to hl _ p2.2.2) (fun r3 p3 => To.bind (spec_l01Byte_to hl _ p3.2.2) (fun r4 p4 => To.neg (by omega) (To.now ⟨Int.tmod_nonneg _ ?_,fun c => Int.tmod_lt_of_pos _ c,p4.2.2⟩)))));have q1:=p1.1;have q2:=p2.1;have q3:=p3.1;have q4:=p4.1;have s1:=p1.2.1;have s2:=p2.2.1;have s3:=p3.2.1;have s4:=p4.2.1;generalize r1.1 = a at *;generalize r2.1 = b at *;generalize r3.1 = c at *;generalize r4.1 = d at *;rw [wrap64_id (n:=a * 16777216) (by omega) (by omega),wrap64_id (n:=b * 65536) (by omega) (by omega),wrap64_id (n:=c * 256) (by omega) (by omega),wrap64_id (n:=a * 16777216 + b * 65536) (by omega) (by omega),wrap64_id (n:=a * 16777216 + b * 65536 + c * 256) (by omega) (by omega),wrap64_id (by omega) (by omega)]
  omega
theorem spec_l01Once_to {l : List Int} (hl : l.length ≤ 140737488351232) {i : Int} (y : Int) (h : Cur l i) (n : Int) : To (fun _ => spec_l01Once.f l i y n) (fun r => Cur l r.2.1) := by
 unfold spec_l01Once.f
 exact To.bind (spec_l01Below_to hl y h n) (fun r p => To.now p.2.2)
theorem spec_l01PickInt_to {l : List Int} (hl : l.length ≤ 140737488351232) {i : Int} (y : Int) (h : Cur l i) (xs : List Int) (hx : 0 < xs.length) : To (fun _ => spec_l01PickInt.f l i y xs) (fun r => r.1 ∈ xs ∧ Cur l r.2.1) := by
 unfold spec_l01PickInt.f
 exact To.bind (spec_l01Below_to hl y h _) (fun r p => To.pos p.1 (To.pos (p.2.1 (by omega)) (To.now ⟨rd_mem p.1 (p.2.1 (by omega)),p.2.2⟩)))
theorem spec_l01Pick_to {l : List Int} (hl : l.length ≤ 140737488351232) {i : Int} (y : Int) (h : Cur l i) (xs : List ByteArray) (hx : 0 < xs.length) : To (fun _ => spec_l01Pick.f l i y xs) (fun r => r.1 ∈ xs ∧ Cur l r.2.1) := by
 unfold spec_l01Pick.f
 exact To.bind (spec_l01Below_to hl y h _) (fun r p => To.pos p.1 (To.pos (p.2.1 (by omega)) (To.now ⟨rdOf_mem p.1 (p.2.1 (by omega)),p.2.2⟩)))
theorem spec_l15Right_to {l : List Int} (hl : l.length ≤ 140737488351232) {i : Int} (y : Int) (h : Cur l i) : To (fun _ => spec_l15Right.f l i y) (fun r => Cur l r.2.2.2.2.2.2.1) := by
 unfold spec_l15Right.f
 refine To.bind (spec_l01Below_to hl y h 5) (fun r1 p1 => To.ite (fun _ => To.now p1.2.2) (fun _ => ?_));refine To.bind (spec_l01Below_to hl _ p1.2.2 4) (fun r2 p2 => To.bind (spec_l01Below_to hl _ p2.2.2 3) (fun r3 p3 => To.bind (spec_l01Pick_to hl _ p3.2.2 _ (by simp)) (fun r4 p4 => ?_)));refine To.ite (fun _ => To.bind (spec_l01Pick_to hl _ p4.2 _ (by simp)) (fun r5 p5 => To.now p5.2)) (fun _ => To.ite (fun _ => ?_) (fun _ => To.now p4.2));exact To.bind (spec_l01Pick_to hl _ p4.2 _ (by simp)) (fun r5 p5 => To.bind (spec_l01Pick_to hl _ p5.2 _ (by simp)) (fun r6 p6 => To.now p6.2))
theorem spec_l01Long_loop (a v : Int) (h1 : a ≤ 1000000) : ∀ (m n : Nat) (xs : List Int), (xs.length : Int) = a → a.toNat - n ≤ m → n ≤ a.toNat → To (fun k => spec_l01Long.l0 k a v xs (n : Int)) (fun r => (r.size : Int) = a) := by
 intro m
 induction m with
 | zero =>
  intro n xs hx h2 h3;refine To.step (fun _ => rfl) ?_;simp only [spec_l01Long.l0];exact To.neg (by omega) (To.now (by rw [strOfNums_size];exact hx))
 | succ m ih =>
  intro n xs hx h2 h3;refine To.step (fun _ => rfl) ?_;simp only [spec_l01Long.l0,wrap64_succ (show n ≤ 9223372036854775806 by omega)];exact To.ite (fun c => To.pos (by omega) (To.pos (by omega) (ih (n + 1) _ (by rw [List.length_set];exact hx) (by omega) (by omega)))) (fun _ => To.now (by rw [strOfNums_size];exact hx))
theorem spec_l01Long_to (a v : Int) (h0 : 0 ≤ a) (h1 : a ≤ 1000000) : To (fun k => spec_l01Long.f k a v) (fun r => (r.size : Int) = a) := by
 unfold spec_l01Long.f
 exact To.pos h0 (To.pos (by omega) (spec_l01Long_loop a v h1 a.toNat 0 _ (by rw [List.length_replicate];omega) (by omega) (by omega)))
theorem spec_l07Conf_loop {l : List Int} (hl : l.length ≤ 140737488351232) : ∀ (m n : Nat) (acc : List Int) (i y : Int), 5 - n ≤ m → 1 ≤ n → n ≤ 5 → acc.length < n → Cur l i →
  To (fun k => spec_l07Conf.l0 k acc (n : Int) l i y) (fun r => r.1.length ≤ 4 ∧ Cur l r.2.1):=by
 intro m
 induction m with
 | zero =>
  intro n acc i y h1 h2 h3 h4 h;refine To.step (fun _ => rfl) ?_;simp only [spec_l07Conf.l0];refine To.neg (by omega) (To.ite (fun c => To.pos (by omega) (To.now ⟨?_,h⟩)) (fun c => To.now ⟨?_,h⟩))
  ·simp only [List.length_append,List.length_singleton];omega
  ·show acc.length ≤ 4;omega
 | succ m ih =>
  intro n acc i y h1 h2 h3 h4 h;refine To.step (fun _ => rfl) ?_;simp only [spec_l07Conf.l0,wrap64_succ (show n ≤ 9223372036854775806 by omega)];refine To.ite (fun c => To.bind (spec_l01Once_to hl y h 2) (fun r p => To.ite (fun _ => To.pos (by omega) ?_) (fun _ => ?_))) (fun c => To.ite (fun c => To.pos (by omega) (To.now ⟨?_,h⟩)) (fun c => To.now ⟨?_,h⟩))
  ·exact ih (n + 1) _ _ _ (by omega) (by omega) (by omega) (by simp only [List.length_append,List.length_singleton];omega) p
  ·exact ih (n + 1) _ _ _ (by omega) (by omega) (by omega) (by omega) p
  ·simp only [List.length_append,List.length_singleton];omega
  ·show acc.length ≤ 4;omega
theorem spec_l07Conf_to {l : List Int} (hl : l.length ≤ 140737488351232) {i : Int} (y : Int) (h : Cur l i) : To (fun k => spec_l07Conf.f k l i y) (fun r => r.1.length ≤ 4 ∧ Cur l r.2.1) :=
 spec_l07Conf_loop hl 4 1 [] i y (by omega) (by omega) (by omega) (by simp) h
theorem spec_l11Right_to {l : List Int} (hl : l.length ≤ 140737488351232) {i : Int} (y : Int) (h : Cur l i) (a : Int) : To (fun k => spec_l11Right.f k l i y a) (fun r => r.2.2.1.size ≤ 1000 ∧ Cur l r.2.2.2.1) := by
 unfold spec_l11Right.f
 refine To.bind (spec_l01PickInt_to hl y h _ (by simp)) (fun r p => To.ite (fun _ => ?_) (fun _ => To.ite (fun _ => ?_) (fun _ => To.now ⟨Nat.zero_le _,p.2⟩)))
 ·refine To.bind (spec_l07Conf_to hl _ p.2) (fun r2 p2 => To.bind (To.ev (P:=fun t => t.1.size ≤ 1000) (spec_ConfText_ev r2.1 (by omega)) ?_) (fun r3 p3 => To.now ⟨p3,p2.2⟩));have:=confText_size r2.1
  omega
 ·exact To.bind (spec_l15Right_to hl _ p.2) (fun r2 p2 => To.bind (To.ev (P:=fun t => t.1.size ≤ 1000) (spec_CommandText_ev _ _ _ _ _ _) (cmdText_size _ _ _ _ _ _)) (fun r3 p3 => To.now ⟨p3,p2⟩))
theorem spec_l11Any_to {l : List Int} (hl : l.length ≤ 140737488351232) {i : Int} (y : Int) (h : Cur l i) : To (fun k => spec_l11Any.f k l i y) (fun r => r.2.2.1.size ≤ 1000 ∧ Cur l r.2.2.2.1) := by
 unfold spec_l11Any.f
 refine To.bind (spec_l01Below_to hl y h 9) (fun r p => To.bind (spec_l11Right_to hl _ p.2.2 _) (fun r2 p2 => To.bind (spec_l01Below_to hl _ p2.2 30) (fun r3 p3 => ?_)));refine To.ite (fun _ => To.bind (spec_l01PickInt_to hl _ p3.2.2 _ (by simp)) (fun r4 p4 => To.now ⟨p2.1,p4.2⟩)) (fun _ => ?_);refine To.ite (fun _ => To.bind (spec_l01PickInt_to hl _ p3.2.2 _ (by simp)) (fun r4 p4 => To.now ⟨p2.1,p4.2⟩)) (fun _ => ?_);refine To.ite (fun _ => To.bind (spec_l01Below_to hl _ p3.2.2 2) (fun r4 p4 => ?_)) (fun _ => To.now ⟨p2.1,p3.2.2⟩);have h0:=p4.1;have h1:=p4.2.1 (by omega);have e : wrap64 (120 + r4.1) = 120 + r4.1:=wrap64_id (by omega) (by omega);refine To.bind (spec_l01Long_to _ _ (by omega) (by omega)) (fun r5 p5 => To.now ⟨?_,p4.2.2⟩);show r5.size ≤ 1000
 omega
theorem spec_l07AnyConf_to {l : List Int} (hl : l.length ≤ 140737488351232) {i : Int} (y : Int) (h : Cur l i) : To (fun k => spec_l07AnyConf.f k l i y) (fun r => r.1.length ≤ 5 ∧ Cur l r.2.1) := by
 unfold spec_l07AnyConf.f
 refine To.bind (spec_l07Conf_to hl y h) (fun r p => To.bind (spec_l01Below_to hl _ p.2 12) (fun r2 p2 => To.ite (fun _ => ?_) (fun _ => To.ite (fun _ => To.now ⟨Nat.zero_le _,p2.2.2⟩) (fun _ => To.now ⟨?_,p2.2.2⟩))))
 ·refine To.bind (spec_l01PickInt_to hl _ p2.2.2 _ (by simp)) (fun r3 p3 => To.pos (by omega) (To.now ⟨?_,p3.2⟩));simp only [List.length_append,List.length_singleton];omega
 ·show r.1.length ≤ 5;omega
theorem laws_sameInts_loop (xs : List Int) (hx : xs.length ≤ 1048576) : ∀ (rest : List Int) (n : Nat), xs.drop n = rest → Ev (fun k => laws_sameInts.l0 k xs xs (n : Int)) true := by
 intro rest
 induction rest with
 | nil =>
  intro n h;have:=drop_nil h;refine Ev.step (fun _ => rfl) ?_;simp only [laws_sameInts.l0];exact Ev.neg (by omega) (Ev.now _)
 | cons x t ih =>
  intro n h;obtain ⟨h1,-,h3⟩:=drop_cons h;refine Ev.step (fun _ => rfl) ?_;simp only [laws_sameInts.l0,wrap64_succ (show n ≤ 9223372036854775806 by omega)];exact Ev.pos (by omega) (Ev.pos (by omega) (Ev.pos (by omega) (Ev.pos trivial (ih (n + 1) h3))))
theorem laws_sameInts_refl (xs : List Int) (hx : xs.length ≤ 1048576) : Ev (fun k => laws_sameInts.f k xs xs) true := by
 unfold laws_sameInts.f
 exact Ev.pos rfl (laws_sameInts_loop xs hx xs 0 rfl)
theorem spec_l14Flag_eq (b : Bool) : spec_l14Flag.f b = some (flagT b) := by cases b <;> rfl
theorem impl_flag_eq (b : Bool) : impl_flag.f b = some (flagT b) := by cases b <;> rfl
theorem entriesIn_ok : ∀ {l : List S69} {t T : Int}, entriesIn t T l = true → ∀ x ∈ l, x.f2.size ≤ 120
 | [],_,_,_,x,hx => by cases hx
 | e :: r,t,T,h,x,hx => by
  simp only [entriesIn,Bool.and_eq_true] at h
  rcases List.mem_cons.1 hx with rfl|hx
  ·exact entryOk_size h.1
  ·exact entriesIn_ok h.2.2.2 x hx
def encHead (kd fr tt tm ix lt cm : Int) (ok la : Bool) (n : Nat) : ByteArray :=
 strOfNums [kd % 256,fr % 256,tt % 256] ++ varText tm.toNat ++ varText ix.toNat ++ varText lt.toNat ++ varText cm.toNat ++ flagT ok ++ flagT la ++ varText n
def encRows : ByteArray → List S69 → ByteArray
 | s,[] => s
 | s,x :: t => encRows (s ++ shortText (entryText 1 x.f0 x.f1 x.f2).1) t
def encode (kd fr tt tm ix lt cm : Int) (ok : Bool) (es : List S69) (cf : List Int) (da : ByteArray) (la : Bool) : ByteArray × Bool := if msgOk kd fr tt tm ix lt cm ok es cf da la = true then (encRows (encHead kd fr tt tm ix lt cm ok la es.length) es ++ shortText (confText cf).1 ++ shortText da, true) else (⟨#[]⟩, false)
theorem msgOk_bounds (kd fr tt tm ix lt cm : Int) (ok : Bool) (es : List S69) (cf : List Int) (da : ByteArray) (la : Bool) (h : msgOk kd fr tt tm ix lt cm ok es cf da la = true) : (0 ≤ tm ∧ tm ≤ 100000) ∧ (0 ≤ ix ∧ ix ≤ 100000) ∧ (0 ≤ lt ∧ lt ≤ 100000) ∧ (0 ≤ cm ∧ cm ≤ 100000) ∧ es.length ≤ 4 ∧ (∀ x ∈ es, x.f2.size ≤ 120) ∧ cf.length ≤ 4 ∧ da.size ≤ 60 ∧ (confOk cf = true ∨ cf = []) := by
 unfold msgOk at h
 simp only [Bool.and_eq_true] at h;obtain ⟨-,-,-,-,h5,h6,h7,h8,h9,-,h11,h12⟩:=h;refine ⟨inR_true.1 h5,inR_true.1 h7,inR_true.1 h6,inR_true.1 h8,of_decide_eq_true h9,entriesIn_ok h11,?_⟩
 split at h12
 ·rw [Bool.and_eq_true] at h12;have:=confOk_len h12.1;exact ⟨by omega,of_decide_eq_true h12.2,Or.inl h12.1⟩
 ·simp only [Bool.and_eq_true] at h12;have h13:=of_decide_eq_true h12.1;have:=emp_true.1 h12.2.1;exact ⟨by omega,by omega,Or.inr (List.length_eq_zero_iff.1 h13)⟩
theorem encHead_size (kd fr tt tm ix lt cm : Int) (ok la : Bool) (n : Nat) (h1 : tm ≤ 100000) (h2 : ix ≤ 100000) (h3 : lt ≤ 100000) (h4 : cm ≤ 100000) (h5 : n ≤ 4) : (encHead kd fr tt tm ix lt cm ok la n).size ≤ 30 := by
 have s1:=varText_size (show tm.toNat ≤ 34359738367 by omega);have s2:=varText_size (show ix.toNat ≤ 34359738367 by omega);have s3:=varText_size (show lt.toNat ≤ 34359738367 by omega);have s4:=varText_size (show cm.toNat ≤ 34359738367 by omega);have s5:=varText_size (show n ≤ 34359738367 by omega)
 have s6 : (strOfNums [kd % 256,fr % 256,tt % 256]).size = 3:=by rw [strOfNums_size];rfl
 have f1:=flagT_size ok;have f2:=flagT_size la
 unfold encHead
 simp only [size_append]
 omega
theorem spec_Encode_loop (kd fr tt tm ix lt cm : Int) (ok : Bool) (es : List S69) (cf : List Int) (da : ByteArray) (la : Bool) (hx : es.length ≤ 4) (hd : ∀ x ∈ es, x.f2.size ≤ 120) (hc : cf.length ≤ 4) (hda : da.size ≤ 60) : ∀ (rest : List S69) (n : Nat) (acc : ByteArray), es.drop n = rest → acc.size + 200 * rest.length ≤ 10000 →
  Ev (fun k => spec_Encode.l0 k acc (n : Int) kd fr tt tm ix lt cm ok es cf da la) (encRows acc rest ++ shortText (confText cf).1 ++ shortText da,true):=by
 intro rest
 induction rest with
 | nil =>
  intro n acc h ha;have:=drop_nil h;have z1:=confText_size cf;have s1:=shortText_size (show (confText cf).1.size ≤ 34359738367 by omega);have s2:=shortText_size (show da.size ≤ 34359738367 by omega);refine Ev.step (fun _ => rfl) ?_;simp only [spec_Encode.l0];rw [encRows];exact Ev.neg (by omega) (Ev.bind (spec_ConfText_ev cf (by omega)) (Ev.bind (spec_l05Short_ev _ (by omega)) (Ev.pos (by simp at ha;omega) (Ev.bind (spec_l05Short_ev da (by omega)) (Ev.pos (by rw [size_append];simp at ha;omega) (Ev.now _))))))
 | cons x r ih =>
  intro n acc h ha;obtain ⟨h1,-,h3⟩:=drop_cons h;have hm : x ∈ es:=List.mem_of_mem_drop (h ▸ List.mem_cons_self);have hx':=hd x hm;have he:=entryText_size 1 x.f0 x.f1 x.f2;have hs:=shortText_size (show (entryText 1 x.f0 x.f1 x.f2).1.size ≤ 34359738367 by omega);rw [List.length_cons] at ha;refine Ev.step (fun _ => rfl) ?_;simp only [spec_Encode.l0,rdT69_drop h,wrap64_succ (show n ≤ 9223372036854775806 by omega)];rw [encRows];exact Ev.pos (by omega) (Ev.pos (by omega) (Ev.bind (spec_EntryText_ev _ _ _ _ (by omega)) (Ev.bind (spec_l05Short_ev _ (by omega)) (Ev.pos (by omega) (ih (n + 1) _ h3 (by rw [size_append];omega))))))
theorem spec_Encode_ev (kd fr tt tm ix lt cm : Int) (ok : Bool) (es : List S69) (cf : List Int) (da : ByteArray) (la : Bool) (hx : es.length ≤ 1048576) (hd : ∀ x ∈ es, x.f2.size ≤ 1048576) (hc : cf.length ≤ 1048576) : Ev (fun k => spec_Encode.f k kd fr tt tm ix lt cm ok es cf da la) (encode kd fr tt tm ix lt cm ok es cf da la) := by
 unfold spec_Encode.f encode
 refine Ev.bind (spec_MessageOk_ev kd fr tt tm ix lt cm ok es cf da la hx hd hc) ?_
 cases hk : msgOk kd fr tt tm ix lt cm ok es cf da la
 ·exact Ev.neg (by simp) (Ev.done (by simp))
 obtain ⟨b1,b2,b3,b4,b5,b6,b7,b8,-⟩:=msgOk_bounds kd fr tt tm ix lt cm ok es cf da la hk;have s1:=varText_size (show tm.toNat ≤ 34359738367 by omega);have s2:=varText_size (show ix.toNat ≤ 34359738367 by omega);have s3:=varText_size (show lt.toNat ≤ 34359738367 by omega);have s4:=varText_size (show cm.toNat ≤ 34359738367 by omega);have s5:=varText_size (show es.length ≤ 34359738367 by omega)
 have s6 : (strOfNums [kd % 256,fr % 256,tt % 256]).size = 3:=by rw [strOfNums_size];rfl
 have f1:=flagT_size ok;have f2:=flagT_size la;have hz:=encHead_size kd fr tt tm ix lt cm ok la es.length b1.2 b2.2 b3.2 b4.2 b5;refine Ev.pos rfl (Ev.call rfl (Ev.bind (spec_l01Var_ev tm (by omega) (by omega)) (Ev.pos (by omega) (Ev.bind (spec_l01Var_ev ix (by omega) (by omega)) (Ev.pos (by simp only [size_append];omega) (Ev.bind (spec_l01Var_ev lt (by omega) (by omega)) (Ev.pos (by simp only [size_append];omega) (Ev.bind (spec_l01Var_ev cm (by omega) (by omega)) (Ev.pos (by simp only [size_append];omega) ?_)))))))));refine Ev.call (spec_l14Flag_eq ok) (Ev.pos (by simp only [size_append];omega) (Ev.call (spec_l14Flag_eq la) (Ev.pos (by simp only [size_append];omega) (Ev.bind (spec_l01Var_nat _ (by omega)) (Ev.pos (by simp only [size_append];omega) ?_)))));exact Ev.eq (spec_Encode_loop kd fr tt tm ix lt cm ok es cf da la b5 b6 b7 b8 es 0 (encHead kd fr tt tm ix lt cm ok la es.length) rfl (by omega)) (by simp)
theorem impl_Encode_conf (kd fr tt tm ix lt cm : Int) (ok : Bool) (es : List S69) (cf : List Int) (da : ByteArray) (la : Bool) (hc : cf.length ≤ 4) (hda : da.size ≤ 60) (hcf : confOk cf = true ∨ cf = []) (s : ByteArray) (hs : s.size ≤ 10000) : ∀ (rest : List Int) (n : Nat) (acc : List Int), cf.drop n = rest → acc ++ rest.map (· % 256) = cf.map (· % 256) →
  Ev (fun k => impl_Encode.l1 k s acc cf (cf.length : Int) (n : Int) kd fr tt tm ix lt cm ok es cf da la) (s ++ shortText (confText cf).1 ++ shortText da,true):=by
 have hct : (confText cf).1 = strOfNums (cf.map (· % 256)):=by
  rcases hcf with h|h
  ·rw [confText,if_pos h]
  ·subst h;rfl
 intro rest
 induction rest with
 | nil =>
  intro n acc h ha;have:=drop_nil h;rw [List.map_nil,List.append_nil] at ha;have z1:=confText_size cf;have s1:=shortText_size (show (confText cf).1.size ≤ 34359738367 by omega);have s2:=shortText_size (show da.size ≤ 34359738367 by omega);refine Ev.step (fun _ => rfl) ?_;simp only [impl_Encode.l1];rw [ha,← hct];exact Ev.neg (by omega) (Ev.bind (impl_ShortText_ev _ (by omega)) (Ev.bind (impl_ShortText_ev da (by omega)) (Ev.pos (by dsimp only;omega) (Ev.pos (by rw [size_append];dsimp only;omega) (Ev.now _)))))
 | cons x r ih =>
  intro n acc h ha;obtain ⟨h1,-,h3⟩:=drop_cons h
  have hl : acc.length ≤ 4:=by
   have:=congrArg List.length ha
   simp at this
   omega
  refine Ev.step (fun _ => rfl) ?_;simp only [impl_Encode.l1,drop_rd h,wrap64_succ (show n ≤ 9223372036854775806 by omega)];exact Ev.pos (by omega) (Ev.pos (by omega) (Ev.pos (by omega) (Ev.pos (by omega) (ih (n + 1) _ h3 (by rw [← ha];simp)))))
theorem impl_Encode_loop (kd fr tt tm ix lt cm : Int) (ok : Bool) (es : List S69) (cf : List Int) (da : ByteArray) (la : Bool) (hx : es.length ≤ 4) (hd : ∀ x ∈ es, x.f2.size ≤ 120) (hc : cf.length ≤ 4) (hda : da.size ≤ 60) (hcf : confOk cf = true ∨ cf = []) : ∀ (rest : List S69) (n : Nat) (acc : ByteArray), es.drop n = rest → acc.size + 200 * rest.length ≤ 10000 →
  Ev (fun k => impl_Encode.l0 k acc es (es.length : Int) (n : Int) kd fr tt tm ix lt cm ok es cf da la) (encRows acc rest ++ shortText (confText cf).1 ++ shortText da,true):=by
 intro rest
 induction rest with
 | nil =>
  intro n acc h ha;have:=drop_nil h;refine Ev.step (fun _ => rfl) ?_;simp only [impl_Encode.l0];rw [encRows];exact Ev.neg (by omega) (impl_Encode_conf kd fr tt tm ix lt cm ok es cf da la hc hda hcf acc (by simp at ha;omega) cf 0 [] rfl (by simp))
 | cons x r ih =>
  intro n acc h ha;obtain ⟨h1,-,h3⟩:=drop_cons h;have hm : x ∈ es:=List.mem_of_mem_drop (h ▸ List.mem_cons_self);have hx':=hd x hm;have he:=entryText_size 1 x.f0 x.f1 x.f2;have hs:=shortText_size (show (entryText 1 x.f0 x.f1 x.f2).1.size ≤ 34359738367 by omega);rw [List.length_cons] at ha;refine Ev.step (fun _ => rfl) ?_;simp only [impl_Encode.l0,rdT69_drop h,wrap64_succ (show n ≤ 9223372036854775806 by omega)];rw [encRows];exact Ev.pos (by omega) (Ev.pos (by omega) (Ev.pos (by omega) (Ev.bind (impl_EntryText_ev _ _ _ _ (by omega)) (Ev.bind (impl_ShortText_ev _ (by omega)) (Ev.pos (by dsimp only;omega) (ih (n + 1) _ h3 (by dsimp only;rw [size_append];omega)))))))
theorem impl_Encode_ev (kd fr tt tm ix lt cm : Int) (ok : Bool) (es : List S69) (cf : List Int) (da : ByteArray) (la : Bool) (hx : es.length ≤ 1048576) (hd : ∀ x ∈ es, x.f2.size ≤ 1048576) (hc : cf.length ≤ 1048576) : Ev (fun k => impl_Encode.f k kd fr tt tm ix lt cm ok es cf da la) (encode kd fr tt tm ix lt cm ok es cf da la) := by
 unfold impl_Encode.f encode
 refine Ev.bind (impl_MessageOk_ev kd fr tt tm ix lt cm ok es cf da la hx hd hc) ?_
 cases hk : msgOk kd fr tt tm ix lt cm ok es cf da la
 ·exact Ev.neg (by simp) (Ev.done (by simp))
 obtain ⟨b1,b2,b3,b4,b5,b6,b7,b8,b9⟩:=msgOk_bounds kd fr tt tm ix lt cm ok es cf da la hk;have s1:=varText_size (show tm.toNat ≤ 34359738367 by omega);have s2:=varText_size (show ix.toNat ≤ 34359738367 by omega);have s3:=varText_size (show lt.toNat ≤ 34359738367 by omega);have s4:=varText_size (show cm.toNat ≤ 34359738367 by omega);have s5:=varText_size (show es.length ≤ 34359738367 by omega)
 have s6 : (strOfNums [kd % 256,fr % 256,tt % 256]).size = 3:=by rw [strOfNums_size];rfl
 have f1:=flagT_size ok;have f2:=flagT_size la;have hz:=encHead_size kd fr tt tm ix lt cm ok la es.length b1.2 b2.2 b3.2 b4.2 b5
 have ev : varsOf [tm,ix,lt,cm] = (varText tm.toNat ++ (varText ix.toNat ++ (varText lt.toNat ++ varText cm.toNat)),true):=by
  rw [varsOf,if_pos (by simp [inR_true];omega)]
  simp [varText,strOfNums_append]
 refine Ev.pos rfl (Ev.bind (Ev.eq (impl_vars_ev _ (by simp)) ev) (Ev.bind (impl_VarText_nat _ (by omega)) (Ev.call rfl (Ev.pos (by simp only [size_append];omega) ?_))));refine Ev.call (impl_flag_eq ok) (Ev.pos (by simp only [size_append];omega) (Ev.call (impl_flag_eq la) (Ev.pos (by simp only [size_append];omega) (Ev.pos (by simp only [size_append];omega) ?_))))
 have e : strOfNums [kd % 256,fr % 256,tt % 256] ++ (varText tm.toNat ++ (varText ix.toNat ++ (varText lt.toNat ++ varText cm.toNat))) ++ flagT ok ++ flagT la ++ varText es.length = encHead kd fr tt tm ix lt cm ok la es.length:=by
  simp only [encHead,ByteArray.append_assoc]
 simp only [e];exact Ev.eq (impl_Encode_loop kd fr tt tm ix lt cm ok es cf da la b5 b6 b7 b8 b9 es 0 _ rfl (by omega)) (by simp)
def entBytes (x : S69) : List Int := sh (entryText 1 x.f0 x.f1 x.f2).1
theorem encRows_bytes : ∀ (l : List S69) (acc : ByteArray), bytesOf (encRows acc l) = bytesOf acc ++ l.flatMap entBytes
 | [],acc => by simp [encRows]
 | x :: t,acc => by
  rw [encRows,encRows_bytes t];simp only [bytesOf_append,bytesOf_shortText,List.flatMap_cons,entBytes,List.append_assoc]
def msgBytes (kd fr tt tm ix lt cm : Int) (ok : Bool) (es : List S69) (cf : List Int) (da : ByteArray) (la : Bool) : List Int := kd :: fr :: tt :: (varL tm.toNat ++ (varL ix.toNat ++ (varL lt.toNat ++ (varL cm.toNat ++ (flagL ok :: flagL la :: (varL es.length ++ (es.flatMap entBytes ++ (sh (confText cf).1 ++ sh da))))))))
theorem entriesIn_right : ∀ {l : List S69} {t T : Int}, entriesIn t T l = true → ∀ x ∈ l, entryOk x.f0 x.f1 x.f2 = true
 | [],_,_,_,x,hx => by cases hx
 | e :: r,t,T,h,x,hx => by
  simp only [entriesIn,Bool.and_eq_true] at h
  rcases List.mem_cons.1 hx with rfl|hx
  ·exact h.1
  ·exact entriesIn_right h.2.2.2 x hx
theorem msgOk_first (kd fr tt tm ix lt cm : Int) (ok : Bool) (es : List S69) (cf : List Int) (da : ByteArray) (la : Bool) (h : msgOk kd fr tt tm ix lt cm ok es cf da la = true) : (1 ≤ kd ∧ kd ≤ 6) ∧ (1 ≤ fr ∧ fr ≤ 4) ∧ (1 ≤ tt ∧ tt ≤ 4) ∧ (∀ x ∈ es, entryOk x.f0 x.f1 x.f2 = true) := by
 unfold msgOk at h
 simp only [Bool.and_eq_true] at h;obtain ⟨h1,h2,h3,-,-,-,-,-,-,-,h11,-⟩:=h;exact ⟨inR_true.1 h1,inR_true.1 h2,inR_true.1 h3,entriesIn_right h11⟩
theorem encode_parts (kd fr tt tm ix lt cm : Int) (ok : Bool) (es : List S69) (cf : List Int) (da : ByteArray) (la : Bool) {s : ByteArray} (h : encode kd fr tt tm ix lt cm ok es cf da la = (s, true)) : msgOk kd fr tt tm ix lt cm ok es cf da la = true ∧ bytesOf s = msgBytes kd fr tt tm ix lt cm ok es cf da la := by
 unfold encode at h
 by_cases hk : msgOk kd fr tt tm ix lt cm ok es cf da la = true
 ·rw [if_pos hk] at h;refine ⟨hk,?_⟩;obtain ⟨k1,k2,k3,-⟩:=msgOk_first kd fr tt tm ix lt cm ok es cf da la hk;rw [← (Prod.mk.inj h).1];simp only [bytesOf_append,encRows_bytes,encHead,bytesOf_varText,bytesOf_flagT,bytesOf_shortText];rw [bytesOf_strOfNums _ (by simp;omega),Int.emod_eq_of_lt (by omega) (by omega),Int.emod_eq_of_lt (by omega) (by omega),Int.emod_eq_of_lt (by omega) (by omega)];simp only [msgBytes,List.append_assoc,List.cons_append,List.nil_append]
 ·rw [if_neg hk] at h;simp at h
theorem ent_back {x : S69} (h : entryOk x.f0 x.f1 x.f2 = true) : readEntry (entryText 1 x.f0 x.f1 x.f2).1 = (1, x.f0, x.f1, x.f2, true) ∧ (entryText 1 x.f0 x.f1 x.f2).1.size ≤ 140 := by
 have hz:=entryOk_size h;have hs:=entryText_size 1 x.f0 x.f1 x.f2;refine ⟨readEntry_back ?_,by omega⟩
 unfold entryText
 rw [if_pos (by rw [h];rfl)]
theorem entData_size (s : ByteArray) : (readEntry s).2.2.2.1.size ≤ s.size := by
 have hz : (noEntry).2.2.2.1.size ≤ s.size:=Nat.zero_le _
 unfold readEntry
 split
 ·exact hz
 split
 ·exact hz
 split
 ·exact hz
 split
 ·simp only [ByteArray.size_extract];omega
 ·exact hz
theorem conf_back {cf : List Int} (h : confOk cf = true ∨ cf = []) : (readConf (confText cf).1).1 = cf := by
 rcases h with h|h
 ·rw [(confText_back h).2]
 ·subst h;rfl
theorem readConf_len (s : ByteArray) : (readConf s).1.length ≤ s.size := by
 unfold readConf
 split
 ·rw [bytesOf_length];exact Nat.le_refl _
 ·exact Nat.zero_le _
abbrev Msg := Int × Int × Int × Int × Int × Int × Int × Bool × List S69 × List Int × ByteArray × Bool × Bool
def noMsg : Msg := (0, 0, 0, 0, 0, 0, 0, false, [], [], ⟨#[]⟩, false,false)
def Dec (x0 : ByteArray) (r : Msg) : Prop := r = noMsg ∨ ∃ kd fr tt tm ix lt cm ok es cf da la, r = (kd, fr, tt, tm, ix, lt, cm, ok, es, cf, da, la, true) ∧ encode kd fr tt tm ix lt cm ok es cf da la = (x0, true)
theorem spec_Decode_fin (x0 s : ByteArray) (hs : s.size ≤ 1048576) (n i a : Int) (b : Bool) (h0 : 0 ≤ a) (h1 : a ≤ s.size) (kd fr tt tm ix lt cm : Int) (ok : Bool) (es : List S69) (da : ByteArray) (la : Bool) (hl : es.length ≤ 1048576) (hd : ∀ x ∈ es, x.f2.size ≤ 1048576) :
  To (fun k => spec_Decode.j1 k x0 n i false s a b kd fr tt tm ix lt cm ok es da la) (Dec x0):=by
 have p1:=curShort_place (s:=s) (a:=a) (bad:=b) h0 h1;have z1:=curShort_size (bad:=b) h0 h1;have z2:=readConf_len (curShort s a b).1;refine To.step (fun _ => rfl) ?_;simp only [spec_Decode.j1];refine To.neg (by simp) (To.bind (To.ev (P:=fun r => r = curShort s a b) (spec_l05ReadShort_ev s a b (by omega) h0 h1) rfl) (fun r1 e1 => ?_));subst e1;simp only [curShort_text];refine To.bind (To.ev (P:=fun r => r = readConf (curShort s a b).1) (spec_ReadConf_ev _ (by omega)) rfl) (fun r2 e2 => ?_);subst e2;refine To.bind (To.ev (P:=fun r => r = curShort s (curShort s a b).2.2.1 (curShort s a b).2.2.2) (spec_l05ReadShort_ev s _ _ (by omega) p1.1 p1.2) rfl) (fun r3 e3 => ?_);subst e3;refine To.bind (To.ev (P:=fun r => r = encode _ _ _ _ _ _ _ _ _ _ _ _) (spec_Encode_ev _ _ _ _ _ _ _ _ _ _ _ _ hl hd (by omega)) rfl) (fun r4 e4 => ?_);refine To.ite (fun _ => To.now (Or.inl rfl)) (fun _ => To.ite (fun q1 => To.ite (fun q2 => To.now (Or.inr ⟨_,_,_,_,_,_,_,_,_,_,_,_,rfl,?_⟩)) (fun _ => To.now (Or.inl rfl))) (fun _ => To.now (Or.inl rfl)));rw [← e4];exact Prod.ext (toList_inj.1 q2) q1
theorem spec_Decode_loop (x0 s : ByteArray) (hs : s.size ≤ 1048576) (N : Int) (kd fr tt tm ix lt cm : Int) (ok : Bool) (da : ByteArray) (la : Bool) : ∀ (m n : Nat) (es : List S69) (a : Int) (b : Bool), 5 - n ≤ m → n ≤ 5 → es.length = n → (∀ x ∈ es, x.f2.size ≤ 1048576) → 0 ≤ a → a ≤ s.size →
  To (fun k => spec_Decode.l0 k x0 N (n : Int) s a b kd fr tt tm ix lt cm ok es da la) (Dec x0):=by
 intro m
 induction m with
 | zero =>
  intro n es a b h1 h2 h3 hd h4 h5;have fin:=spec_Decode_fin x0 s hs N n a b h4 h5 kd fr tt tm ix lt cm ok es da la (by omega) hd;refine To.step (fun _ => rfl) ?_;simp only [spec_Decode.l0];rw [decide_eq_false (by omega)];exact To.ite (fun _ => To.ite (fun _ => fin) (fun _ => fin)) (fun _ => fin)
 | succ m ih =>
  intro n es a b h1 h2 h3 hd h4 h5;have fin:=spec_Decode_fin x0 s hs N n a b h4 h5 kd fr tt tm ix lt cm ok es da la (by omega) hd;refine To.step (fun _ => rfl) ?_;simp only [spec_Decode.l0];refine To.ite (fun _ => To.ite (fun _ => fin) (fun hb => ?_)) (fun _ => fin)
  by_cases c : (n : Int) ≤ 4
  ·rw [decide_eq_true c];have p1:=curShort_place (s:=s) (a:=a) (bad:=b) h4 h5;have z1:=curShort_size (bad:=b) h4 h5;have z2:=entData_size (curShort s a b).1;refine To.step (fun _ => rfl) ?_;simp only [spec_Decode.j1,wrap64_succ (show n ≤ 9223372036854775806 by omega)];refine To.pos trivial (To.bind (To.ev (P:=fun r => r = curShort s a b) (spec_l05ReadShort_ev s a b (by omega) h4 h5) rfl) (fun r1 e1 => ?_));subst e1;simp only [curShort_text];refine To.bind (To.ev (P:=fun r => r = readEntry (curShort s a b).1) (spec_ReadEntry_ev _ (by omega)) rfl) (fun r2 e2 => ?_);subst e2;refine To.pos (by omega) (ih (n + 1) _ _ _ (by omega) (by omega) (by simp [h3]) ?_ p1.1 p1.2);intro x hx
   rcases List.mem_append.1 hx with hx|hx
   ·exact hd x hx
   ·rw [List.mem_singleton.1 hx];dsimp only;omega
  ·rw [decide_eq_false c];exact fin
theorem spec_Decode_to (s : ByteArray) (hs : s.size ≤ 1048576) : To (fun k => spec_Decode.f k s) (Dec s) := by
 unfold spec_Decode.f
 have p0:=curTake_place (s:=s) (a:=0) (n:=3) (bad:=false) (by omega) (by omega) (by omega);refine To.call (P:=fun r => r = curTake s 0 false 3) ⟨_,spec_l05Take_eq s 0 3 false (by omega) (by omega) (by omega) (by omega) (by omega),rfl⟩ (fun r0 e0 => ?_);subst e0;refine To.ite (fun _ => To.now (Or.inl rfl)) (fun hb => ?_);have hz:=(curTake_good' (s:=s) (a:=0) (n:=3) (bad:=false) (by omega) (by omega) (by simpa using hb)).2.2;refine To.pos (by omega) (To.pos (by omega) (To.pos (by omega) ?_));simp only [curTake_text];refine To.bind (To.ev (P:=fun r => r = curNum s (curTake s 0 false 3).2.2.1 (curTake s 0 false 3).2.2.2) (spec_l05Var_ev s _ _ (by omega)) rfl) (fun r1 e1 => ?_)
 have p1 : r1.2.1 = s ∧ 0 ≤ r1.2.2.1 ∧ r1.2.2.1 ≤ s.size:=by rw [e1];exact ⟨curNum_text _ _ _,curNum_place p0.1 p0.2⟩
 rw [p1.1];refine To.bind (To.ev (P:=fun r => r = curNum s r1.2.2.1 r1.2.2.2) (spec_l05Var_ev s _ _ (by omega)) rfl) (fun r2 e2 => ?_)
 have p2 : r2.2.1 = s ∧ 0 ≤ r2.2.2.1 ∧ r2.2.2.1 ≤ s.size:=by rw [e2];exact ⟨curNum_text _ _ _,curNum_place p1.2.1 p1.2.2⟩
 rw [p2.1];refine To.bind (To.ev (P:=fun r => r = curNum s r2.2.2.1 r2.2.2.2) (spec_l05Var_ev s _ _ (by omega)) rfl) (fun r3 e3 => ?_)
 have p3 : r3.2.1 = s ∧ 0 ≤ r3.2.2.1 ∧ r3.2.2.1 ≤ s.size:=by rw [e3];exact ⟨curNum_text _ _ _,curNum_place p2.2.1 p2.2.2⟩
 rw [p3.1];refine To.bind (To.ev (P:=fun r => r = curNum s r3.2.2.1 r3.2.2.2) (spec_l05Var_ev s _ _ (by omega)) rfl) (fun r4 e4 => ?_)
 have p4 : r4.2.1 = s ∧ 0 ≤ r4.2.2.1 ∧ r4.2.2.1 ≤ s.size:=by rw [e4];exact ⟨curNum_text _ _ _,curNum_place p3.2.1 p3.2.2⟩
 rw [p4.1];refine To.call (P:=fun r => r = curTake s r4.2.2.1 r4.2.2.2 1) ⟨_,spec_l05Take_eq s _ 1 _ (by omega) p4.2.1 p4.2.2 (by omega) (by omega),rfl⟩ (fun r5 e5 => ?_)
 have p5 : r5.2.1 = s ∧ 0 ≤ r5.2.2.1 ∧ r5.2.2.1 ≤ s.size:=by rw [e5];exact ⟨curTake_text _ _ _ _,curTake_place p4.2.1 p4.2.2 (by omega)⟩
 rw [p5.1];refine To.call (P:=fun r => r = curTake s r5.2.2.1 r5.2.2.2 1) ⟨_,spec_l05Take_eq s _ 1 _ (by omega) p5.2.1 p5.2.2 (by omega) (by omega),rfl⟩ (fun r6 e6 => ?_)
 have p6 : r6.2.1 = s ∧ 0 ≤ r6.2.2.1 ∧ r6.2.2.1 ≤ s.size:=by rw [e6];exact ⟨curTake_text _ _ _ _,curTake_place p5.2.1 p5.2.2 (by omega)⟩
 rw [p6.1];refine To.bind (To.ev (P:=fun r => r = curNum s r6.2.2.1 r6.2.2.2) (spec_l05Var_ev s _ _ (by omega)) rfl) (fun r7 e7 => ?_)
 have p7 : r7.2.1 = s ∧ 0 ≤ r7.2.2.1 ∧ r7.2.2.1 ≤ s.size:=by rw [e7];exact ⟨curNum_text _ _ _,curNum_place p6.2.1 p6.2.2⟩
 rw [p7.1];exact spec_Decode_loop s s hs r7.1 _ _ _ _ _ _ _ _ _ _ 5 0 [] _ _ (by omega) (by omega) rfl (by simp) p7.2.1 p7.2.2
theorem spec_Decode_end (kd fr tt tm ix lt cm : Int) (ok : Bool) (es : List S69) (cf : List Int) (da : ByteArray) (la : Bool) (x0 s : ByteArray) (hs : s.size ≤ 1048576) (n i a : Int) (h0 : 0 ≤ a) (h1 : a ≤ s.size) (h : encode kd fr tt tm ix lt cm ok es cf da la = (x0, true)) (hc : confOk cf = true ∨ cf = []) (hcl : cf.length ≤ 4) (hda : da.size ≤ 60) (hl : es.length ≤ 1048576) (hd : ∀ x ∈ es, x.f2.size ≤ 1048576) (h4 : At s a (sh (confText cf).1 ++ sh da) s.size) (e : ByteArray) :
  Ev (fun k => spec_Decode.j1 k x0 n i false s a false kd fr tt tm ix lt cm ok es e la) (kd,fr,tt,tm,ix,lt,cm,ok,es,cf,da,la,true):=by
 have zc:=confText_size cf;obtain ⟨q1,q2⟩:=h4.split;have l1:=q1.le;refine Ev.step (fun _ => rfl) ?_;simp only [spec_Decode.j1];refine Ev.neg (by simp) (Ev.bind (Ev.eq (spec_l05ReadShort_ev s a false (by omega) h0 h1) (curShort_fwd q1 (by omega))) (Ev.bind (Ev.eq (spec_ReadConf_ev (confText cf).1 (by omega)) (Prod.ext (conf_back hc) rfl : readConf (confText cf).1 = (cf,(readConf (confText cf).1).2))) (Ev.bind (Ev.eq (spec_l05ReadShort_ev s (a + ((sh (confText cf).1).length : Int)) false (by omega) (by omega) (by omega)) (curShort_fwd q2 (by omega))) (Ev.bind (Ev.eq (spec_Encode_ev kd fr tt tm ix lt cm ok es cf da la hl hd (by omega)) h) (Ev.neg (by simp) (Ev.pos rfl (Ev.pos rfl (Ev.now _))))))))
theorem spec_Decode_fwd (kd fr tt tm ix lt cm : Int) (ok : Bool) (es : List S69) (cf : List Int) (da : ByteArray) (la : Bool) (x0 s : ByteArray) (hs : s.size ≤ 1048576) (h : encode kd fr tt tm ix lt cm ok es cf da la = (x0, true)) (hc : confOk cf = true ∨ cf = []) (hcl : cf.length ≤ 4) (hda : da.size ≤ 60) (hl : es.length ≤ 4) (hd : ∀ x ∈ es, x.f2.size ≤ 1048576) (e : ByteArray) : ∀ (rest : List S69) (n : Nat) (acc : List S69) (a : Int), acc ++ rest = es → acc.length = n → (∀ x ∈ rest, entryOk x.f0 x.f1 x.f2 = true) → At s a (rest.flatMap entBytes ++ (sh (confText cf).1 ++ sh da)) s.size →
  Ev (fun k => spec_Decode.l0 k x0 (es.length : Int) (n : Int) s a false kd fr tt tm ix lt cm ok acc e la) (kd,fr,tt,tm,ix,lt,cm,ok,es,cf,da,la,true):=by
 intro rest
 induction rest with
 | nil =>
  intro n acc a h1 h2 h3 h4;rw [List.append_nil] at h1;subst h1;have l4:=h4.le;refine Ev.step (fun _ => rfl) ?_;simp only [spec_Decode.l0];exact Ev.neg (by omega) (spec_Decode_end kd fr tt tm ix lt cm ok acc cf da la x0 s hs _ _ a (by omega) (by omega) h hc hcl hda (by omega) hd (by simpa using h4) e)
 | cons x t ih =>
  intro n acc a h1 h2 h3 h4
  have hlen : acc.length + (t.length + 1) = es.length:=by rw [← h1];simp
  rw [List.flatMap_cons,entBytes,List.append_assoc] at h4;obtain ⟨q1,h4⟩:=h4.split;obtain ⟨g1,g2⟩:=ent_back (h3 x List.mem_cons_self);have l1:=q1.le;refine Ev.step (fun _ => rfl) ?_;simp only [spec_Decode.l0];rw [decide_eq_true (show (n : Int) ≤ 4 by omega)];refine Ev.pos (by omega) (Ev.neg (by simp) ?_);refine Ev.step (fun _ => rfl) ?_;simp only [spec_Decode.j1,wrap64_succ (show n ≤ 9223372036854775806 by omega)];exact Ev.pos trivial (Ev.bind (Ev.eq (spec_l05ReadShort_ev s a false (by omega) (by omega) (by omega)) (curShort_fwd q1 (by omega))) (Ev.bind (Ev.eq (spec_ReadEntry_ev (entryText 1 x.f0 x.f1 x.f2).1 (by omega)) g1) (Ev.pos (by omega) (ih (n + 1) _ _ (by rw [← h1,List.append_assoc];rfl) (by simp [h2]) (fun y hy => h3 y (List.mem_cons_of_mem _ hy)) h4))))
theorem msg_places (kd fr tt tm ix lt cm : Int) (ok : Bool) (es : List S69) (cf : List Int) (da : ByteArray) (la : Bool) {s : ByteArray} (hb : bytesOf s = msgBytes kd fr tt tm ix lt cm ok es cf da la) : ∃ a1 a2 a3 a4 a7 : Int, At s 0 [kd] 1 ∧ At s 1 [fr] 2 ∧ At s 2 [tt] 3 ∧ At s 0 [kd, fr, tt] 3 ∧ At s 3 (varL tm.toNat) a1 ∧ At s a1 (varL ix.toNat) a2 ∧ At s a2 (varL lt.toNat) a3 ∧ At s a3 (varL cm.toNat) a4 ∧ At s a4 [flagL ok] (a4 + 1) ∧ At s (a4 + 1) [flagL la] (a4 + 1 + 1) ∧ At s (a4 + 1 + 1) (varL es.length) a7 ∧ At s a7 (es.flatMap entBytes ++ (sh (confText cf).1 ++ sh da)) s.size := by
 have hw:=At.whole s;rw [hb,msgBytes] at hw;obtain ⟨w0,-⟩:=At.split (P:=[kd,fr,tt]) hw;obtain ⟨w1,hw⟩:=at_cons hw;obtain ⟨w2,hw⟩:=at_cons hw;obtain ⟨w3,hw⟩:=at_cons hw;obtain ⟨w4,hw⟩:=hw.split;obtain ⟨w5,hw⟩:=hw.split;obtain ⟨w6,hw⟩:=hw.split;obtain ⟨w7,hw⟩:=hw.split;obtain ⟨w8,hw⟩:=at_cons hw;obtain ⟨w9,hw⟩:=at_cons hw;obtain ⟨w10,hw⟩:=hw.split;exact ⟨_,_,_,_,_,w1,w2,w3,w0,w4,w5,w6,w7,w8,w9,w10,hw⟩
theorem spec_Decode_good (kd fr tt tm ix lt cm : Int) (ok : Bool) (es : List S69) (cf : List Int) (da : ByteArray) (la : Bool) (s : ByteArray) (hs : s.size ≤ 1048576) (h : encode kd fr tt tm ix lt cm ok es cf da la = (s, true)) : Ev (fun k => spec_Decode.f k s) (kd, fr, tt, tm, ix, lt, cm, ok, es, cf, da, la, true) := by
 obtain ⟨hk,hb⟩:=encode_parts kd fr tt tm ix lt cm ok es cf da la h;obtain ⟨b1,b2,b3,b4,b5,b6,b7,b8,b9⟩:=msgOk_bounds kd fr tt tm ix lt cm ok es cf da la hk;obtain ⟨k1,k2,k3,k4⟩:=msgOk_first kd fr tt tm ix lt cm ok es cf da la hk;obtain ⟨a1,a2,a3,a4,a7,-,-,-,w0,w4,w5,w6,w7,w8,w9,w10,w11⟩:=msg_places kd fr tt tm ix lt cm ok es cf da la hb;have l4:=w4.le;have l5:=w5.le;have l6:=w6.le;have l7:=w7.le;have l8:=w8.le;have l9:=w9.le;have l10:=w10.le;have hr : bytesOf (strOfNums [kd,fr,tt]) = [kd,fr,tt]:=bytesOf_strOfNums _ (by simp;omega)
 have hz : (strOfNums [kd,fr,tt]).size = 3:=by rw [strOfNums_size];rfl
 have ht : curTake s 0 false 3 = (strOfNums [kd,fr,tt],s,3,false):=by
  have:=curTake_fwd (r:=strOfNums [kd,fr,tt]) (s:=s) (a:=0) (b:=3) (by rw [hr];exact w0)
  rwa [hz] at this
 have g0 : bt (strOfNums [kd,fr,tt]) 0 = kd:=by rw [← rd_bytesOf,hr];rfl
 have g1 : bt (strOfNums [kd,fr,tt]) 1 = fr:=by rw [← rd_bytesOf,hr];rfl
 have g2 : bt (strOfNums [kd,fr,tt]) 2 = tt:=by rw [← rd_bytesOf,hr];rfl
 unfold spec_Decode.f
 refine Ev.call ((spec_l05Take_eq s 0 3 false (by omega) (by omega) (by omega) (by omega) (by omega)).trans (congrArg some ht)) (Ev.neg (by simp) (Ev.pos (by rw [hz];omega) (Ev.pos (by rw [hz];omega) (Ev.pos (by rw [hz];omega) ?_))));refine Ev.bind (Ev.eq (spec_l05Var_ev s _ false (by omega)) (curNum_fwd w4 (by omega))) (Ev.bind (Ev.eq (spec_l05Var_ev s _ false (by omega)) (curNum_fwd w5 (by omega))) (Ev.bind (Ev.eq (spec_l05Var_ev s _ false (by omega)) (curNum_fwd w6 (by omega))) (Ev.bind (Ev.eq (spec_l05Var_ev s _ false (by omega)) (curNum_fwd w7 (by omega))) ?_)));refine Ev.call ((spec_l05Take_eq s a4 1 false (by omega) (by omega) (by omega) (by omega) (by omega)).trans (congrArg some (take_flag w8))) (Ev.call ((spec_l05Take_eq s (a4 + 1) 1 false (by omega) (by omega) (by omega) (by omega) (by omega)).trans (congrArg some (take_flag w9))) (Ev.bind (Ev.eq (spec_l05Var_ev s _ false (by omega)) (curNum_fwd w10 (by omega))) ?_));simp only [g0,g1,g2,(flag_at ok).2.2.1,(flag_at la).2.2.1,Int.toNat_of_nonneg b1.1,Int.toNat_of_nonneg b2.1,Int.toNat_of_nonneg b3.1,Int.toNat_of_nonneg b4.1];rw [wrap64_id (n:=kd) (by omega) (by omega),wrap64_id (n:=fr) (by omega) (by omega),wrap64_id (n:=tt) (by omega) (by omega)];exact spec_Decode_fwd kd fr tt tm ix lt cm ok es cf da la s s hs h b9 b7 b8 b5 (fun x hx => by have:=b6 x hx;omega) _ es 0 [] a7 rfl rfl k4 w11
theorem impl_Decode_step (s : ByteArray) (hs : s.size ≤ 1048576) (a : Int) (h0 : 0 ≤ a) (h1 : a ≤ s.size) (acc : List S69) (hl : acc.length ≤ 1048577) : To (fun k => impl_Decode.one k s a false acc) (fun r => r.1 = s ∧ (0 ≤ r.2.1 ∧ r.2.1 ≤ s.size) ∧ (∃ x : S69, r.2.2.2 = acc ++ [x] ∧ x.f2.size ≤ 20000) ∧ (r.2.2.1 = false → a < r.2.1)) := by
 unfold impl_Decode.one
 have p1:=curText_place (s:=s) (a:=a) (bad:=false) h0 h1;have z1:=curText_size s a false;have z2:=entData_size (curText s a false).1;refine To.bind (To.ev (P:=fun r => r = curText s a false) (impl_reader_text_ev s a false (by omega)) rfl) (fun r1 e1 => ?_);subst e1;simp only [curText_text];refine To.bind (To.ev (P:=fun r => r = readEntry (curText s a false).1) (impl_ReadEntry_ev _ (by omega)) rfl) (fun r2 e2 => ?_);subst e2;refine To.pos (by omega) (To.now ⟨rfl,p1,⟨_,rfl,by dsimp only;omega⟩,fun hb => ?_⟩);dsimp only at hb ⊢;obtain ⟨-,m1,-⟩:=curText_good' (s:=s) (a:=a) (bad:=false) (by simp at hb;exact hb.1);have hm:=m1.le;have:=varL_pos (curText s a false).1.size;rw [sh,List.length_append] at hm
 omega
theorem impl_Decode_loop (s : ByteArray) (hs : s.size ≤ 1048576) (N : Int) : ∀ (m : Nat) (i a : Int) (b : Bool) (acc : List S69), 0 ≤ a → a ≤ s.size → (acc.length : Int) + 1 ≤ a + (if b = true then 1 else 0) → (∀ x ∈ acc, x.f2.size ≤ 20000) → (s.size : Int) - a + (if b = true then 0 else 1) ≤ m →
  To (fun k => impl_Decode.l0 k N i s a b acc) (fun r => r.1 = s ∧ (0 ≤ r.2.1 ∧ r.2.1 ≤ s.size) ∧ r.2.2.2.length ≤ 1048576 ∧ (∀ x ∈ r.2.2.2,x.f2.size ≤ 20000)):=by
 intro m
 induction m with
 | zero =>
  intro i a b acc h0 h1 h2 h3 h4
  obtain rfl : b = true:=by cases b <;> simp_all;omega
  simp only [if_true] at h2;refine To.step (fun _ => rfl) ?_;simp only [impl_Decode.l0];exact To.ite (fun _ => To.pos (by simp) (To.now ⟨rfl,⟨h0,h1⟩,by dsimp only;omega,h3⟩)) (fun _ => To.now ⟨rfl,⟨h0,h1⟩,by dsimp only;omega,h3⟩)
 | succ m ih =>
  intro i a b acc h0 h1 h2 h3 h4;refine To.step (fun _ => rfl) ?_;simp only [impl_Decode.l0]
  cases b with
  | true =>
   simp only [if_true] at h2;exact To.ite (fun _ => To.pos (by simp) (To.now ⟨rfl,⟨h0,h1⟩,by dsimp only;omega,h3⟩)) (fun _ => To.now ⟨rfl,⟨h0,h1⟩,by dsimp only;omega,h3⟩)
  | false =>
   simp only [Bool.false_eq_true,if_false] at h2 h4;refine To.ite (fun c => To.neg (by simp) (To.bind (impl_Decode_step s (by omega) a h0 h1 acc (by omega)) (fun r p => ?_))) (fun c => To.now ⟨rfl,⟨h0,h1⟩,by dsimp only;omega,h3⟩);obtain ⟨s',a',b',out'⟩:=r;obtain ⟨p1,p2,⟨x,p3,p4⟩,p5⟩:=p;dsimp only at p1 p2 p3 p5 ⊢;subst p1;subst p3
   have hx : ∀ y ∈ acc ++ [x],y.f2.size ≤ 20000:=by
    intro y hy
    rcases List.mem_append.1 hy with hy|hy
    ·exact h3 y hy
    ·rw [List.mem_singleton.1 hy];exact p4
   cases b' with
   | true =>
    refine To.step (fun _ => rfl) ?_;simp only [impl_Decode.l0];exact To.ite (fun _ => To.pos (by simp) (To.now ⟨rfl,p2,by simp;omega,hx⟩)) (fun _ => To.now ⟨rfl,p2,by simp;omega,hx⟩)
   | false =>
    have:=p5 rfl;exact ih _ a' false (acc ++ [x]) p2.1 p2.2 (by simp;omega) hx (by simp;omega)
theorem impl_Decode_to (s : ByteArray) (hs : s.size ≤ 1048576) : To (fun k => impl_Decode.f k s) (Dec s) := by
 unfold impl_Decode.f
 refine To.call (P:=fun r => r = curByte s 0 false) ⟨_,impl_reader_byte_eq s 0 false (by omega) (by omega) (by omega),rfl⟩ (fun r0 e0 => ?_)
 have p0 : r0.2.1 = s ∧ 0 ≤ r0.2.2.1 ∧ r0.2.2.1 ≤ s.size:=by rw [e0];exact ⟨curByte_text _ _ _,curByte_place (by omega) (by omega)⟩
 rw [p0.1];refine To.call (P:=fun r => r = curByte s r0.2.2.1 r0.2.2.2) ⟨_,impl_reader_byte_eq s _ _ (by omega) p0.2.1 p0.2.2,rfl⟩ (fun r1 e1 => ?_)
 have p1 : r1.2.1 = s ∧ 0 ≤ r1.2.2.1 ∧ r1.2.2.1 ≤ s.size:=by rw [e1];exact ⟨curByte_text _ _ _,curByte_place p0.2.1 p0.2.2⟩
 rw [p1.1];refine To.call (P:=fun r => r = curByte s r1.2.2.1 r1.2.2.2) ⟨_,impl_reader_byte_eq s _ _ (by omega) p1.2.1 p1.2.2,rfl⟩ (fun r2 e2 => ?_)
 have p2 : r2.2.1 = s ∧ 0 ≤ r2.2.2.1 ∧ r2.2.2.1 ≤ s.size:=by rw [e2];exact ⟨curByte_text _ _ _,curByte_place p1.2.1 p1.2.2⟩
 rw [p2.1];refine To.bind (To.ev (P:=fun r => r = curNum s r2.2.2.1 r2.2.2.2) (impl_reader_num_ev s _ _ (by omega)) rfl) (fun r3 e3 => ?_)
 have p3 : r3.2.1 = s ∧ 0 ≤ r3.2.2.1 ∧ r3.2.2.1 ≤ s.size:=by rw [e3];exact ⟨curNum_text _ _ _,curNum_place p2.2.1 p2.2.2⟩
 rw [p3.1];refine To.bind (To.ev (P:=fun r => r = curNum s r3.2.2.1 r3.2.2.2) (impl_reader_num_ev s _ _ (by omega)) rfl) (fun r4 e4 => ?_)
 have p4 : r4.2.1 = s ∧ 0 ≤ r4.2.2.1 ∧ r4.2.2.1 ≤ s.size:=by rw [e4];exact ⟨curNum_text _ _ _,curNum_place p3.2.1 p3.2.2⟩
 rw [p4.1];refine To.bind (To.ev (P:=fun r => r = curNum s r4.2.2.1 r4.2.2.2) (impl_reader_num_ev s _ _ (by omega)) rfl) (fun r5 e5 => ?_)
 have p5 : r5.2.1 = s ∧ 0 ≤ r5.2.2.1 ∧ r5.2.2.1 ≤ s.size:=by rw [e5];exact ⟨curNum_text _ _ _,curNum_place p4.2.1 p4.2.2⟩
 rw [p5.1];refine To.bind (To.ev (P:=fun r => r = curNum s r5.2.2.1 r5.2.2.2) (impl_reader_num_ev s _ _ (by omega)) rfl) (fun r6 e6 => ?_)
 have p6 : r6.2.1 = s ∧ 0 ≤ r6.2.2.1 ∧ r6.2.2.1 ≤ s.size:=by rw [e6];exact ⟨curNum_text _ _ _,curNum_place p5.2.1 p5.2.2⟩
 rw [p6.1];refine To.call (P:=fun r => r = curByte s r6.2.2.1 r6.2.2.2) ⟨_,impl_reader_byte_eq s _ _ (by omega) p6.2.1 p6.2.2,rfl⟩ (fun r7 e7 => ?_)
 have p7 : r7.2.1 = s ∧ 0 ≤ r7.2.2.1 ∧ r7.2.2.1 ≤ s.size:=by rw [e7];exact ⟨curByte_text _ _ _,curByte_place p6.2.1 p6.2.2⟩
 rw [p7.1];refine To.call (P:=fun r => r = curByte s r7.2.2.1 r7.2.2.2) ⟨_,impl_reader_byte_eq s _ _ (by omega) p7.2.1 p7.2.2,rfl⟩ (fun r8 e8 => ?_)
 have p8 : r8.2.1 = s ∧ 0 ≤ r8.2.2.1 ∧ r8.2.2.1 ≤ s.size:=by rw [e8];exact ⟨curByte_text _ _ _,curByte_place p7.2.1 p7.2.2⟩
 rw [p8.1];refine To.bind (P:=fun (r : ByteArray × Int × Bool × List S69) => r.1 = s ∧ (0 ≤ r.2.1 ∧ r.2.1 ≤ s.size) ∧ r.2.2.2.length ≤ 1048576 ∧ (∀ x ∈ r.2.2.2,x.f2.size ≤ 20000)) ?_ (fun r p => ?_)
 ·unfold impl_Decode.each
  refine To.bind (To.ev (P:=fun r => r = curNum s r8.2.2.1 r8.2.2.2) (impl_reader_num_ev s _ _ (by omega)) rfl) (fun r9 e9 => ?_)
  have p9 : r9.2.1 = s ∧ 0 ≤ r9.2.2.1 ∧ r9.2.2.1 ≤ s.size:=by rw [e9];exact ⟨curNum_text _ _ _,curNum_place p8.2.1 p8.2.2⟩
  rw [p9.1]
  have hp9 : r9.2.2.2 = false → 1 ≤ r9.2.2.1:=by
   intro hb;rw [e9] at hb ⊢;have m1:=(curNum_good' hb).2.1.le;have:=varL_pos (curNum s r8.2.2.1 r8.2.2.2).1.toNat
   omega
  refine impl_Decode_loop s (by omega) r9.1 (s.size + 1) 0 r9.2.2.1 r9.2.2.2 [] p9.2.1 p9.2.2 ?_ (by simp) (by split <;> omega)
  by_cases hb : r9.2.2.2 = true
  ·rw [if_pos hb];simp;omega
  ·have:=hp9 (by simpa using hb);rw [if_neg hb];simp;omega
 ·rw [p.1];refine To.bind (To.ev (P:=fun c => c = curText s r.2.1 r.2.2.1) (impl_reader_text_ev s _ _ (by omega)) rfl) (fun c ec => ?_)
  have pc : c.2.1 = s:=by rw [ec];exact curText_text _ _ _
  have zc : c.1.size ≤ 20000:=by rw [ec];exact curText_size _ _ _
  rw [pc];refine To.pos (by omega) (To.bind (To.ev (P:=fun d => d = curText s c.2.2.1 c.2.2.2) (impl_reader_text_ev s _ _ (by omega)) rfl) (fun d ed => ?_));refine To.bind (To.ev (P:=fun z => z = encode _ _ _ _ _ _ _ _ _ _ _ _) (impl_Encode_ev _ _ _ _ _ _ _ _ _ _ _ _ p.2.2.1 (fun x hx => by have:=p.2.2.2 x hx;omega) (by rw [List.length_map,bytesOf_length];omega)) rfl) (fun z ez => ?_);refine To.ite (fun _ => To.now (Or.inl rfl)) (fun _ => To.ite (fun q1 => To.ite (fun q2 => To.now (Or.inr ⟨_,_,_,_,_,_,_,_,_,_,_,_,rfl,?_⟩)) (fun _ => To.now (Or.inl rfl))) (fun _ => To.now (Or.inl rfl)));rw [← ez];exact Prod.ext (toList_inj.1 q2) q1
theorem bytes_wrap (t : ByteArray) : (bytesOf t).map wrap64 = bytesOf t := by
 rw [List.map_congr_left (g:=id) (fun x hx => by have:=bytesOf_range t x hx;exact wrap64_id (by omega) (by omega)),List.map_id]
theorem conf_bytes {cf : List Int} (h : confOk cf = true ∨ cf = []) : bytesOf (confText cf).1 = cf := by
 rcases h with h|h
 ·have:=(confText_back h).2
  unfold readConf at this
  split at this
  ·exact (Prod.mk.inj this).1
  ·simp at this
 ·subst h;rfl
theorem conf_map {cf : List Int} (h : confOk cf = true ∨ cf = []) : (bytesOf (confText cf).1).map wrap64 = cf := by rw [bytes_wrap, conf_bytes h]
theorem impl_Decode_fwd (s : ByteArray) (hs : s.size ≤ 1048576) : ∀ (rest : List S69) (i : Nat) (acc : List S69) (a b : Int), (∀ x ∈ rest, entryOk x.f0 x.f1 x.f2 = true) → i + rest.length ≤ 4 → acc.length = i → At s a (rest.flatMap entBytes) b →
  Ev (fun k => impl_Decode.l0 k ((i + rest.length : Nat) : Int) (i : Int) s a false acc) (s,b,false,acc ++ rest):=by
 intro rest
 induction rest with
 | nil =>
  intro i acc a b h1 h2 h3 h4;refine Ev.step (fun _ => rfl) ?_;simp only [impl_Decode.l0];have:=h4.le;refine Ev.neg (by simp) (Ev.done ?_);simp only [List.flatMap_nil,List.length_nil] at this;rw [List.append_nil,show a = b by omega]
 | cons x t ih =>
  intro i acc a b h1 h2 h3 h4;rw [List.length_cons] at h2;rw [List.flatMap_cons,entBytes] at h4;obtain ⟨q1,h4⟩:=h4.split;obtain ⟨g1,g2⟩:=ent_back (h1 x List.mem_cons_self);refine Ev.step (fun _ => rfl) ?_;simp only [impl_Decode.l0,impl_Decode.one,wrap64_succ (show i ≤ 9223372036854775806 by omega)];refine Ev.pos (by simp only [List.length_cons];omega) (Ev.neg (by simp) (Ev.bind (a:=(s,a + ((sh (entryText 1 x.f0 x.f1 x.f2).1).length : Int),false,acc ++ [x])) ?_ ?_))
  ·exact Ev.bind (Ev.eq (impl_reader_text_ev s a false (by omega)) (curText_fwd q1 (by omega))) (Ev.bind (Ev.eq (impl_ReadEntry_ev (entryText 1 x.f0 x.f1 x.f2).1 (by omega)) g1) (Ev.pos (by omega) (Ev.now _)))
  ·have:=ih (i + 1) (acc ++ [x]) _ b (fun y hy => h1 y (List.mem_cons_of_mem _ hy)) (by omega) (by simp [h3]) h4;rw [show i + 1 + t.length = i + (x :: t).length by simp;omega] at this;exact Ev.eq this (by simp)
theorem impl_Decode_good (kd fr tt tm ix lt cm : Int) (ok : Bool) (es : List S69) (cf : List Int) (da : ByteArray) (la : Bool) (s : ByteArray) (hs : s.size ≤ 1048576) (h : encode kd fr tt tm ix lt cm ok es cf da la = (s, true)) : Ev (fun k => impl_Decode.f k s) (kd, fr, tt, tm, ix, lt, cm, ok, es, cf, da, la, true) := by
 obtain ⟨hk,hb⟩:=encode_parts kd fr tt tm ix lt cm ok es cf da la h;obtain ⟨b1,b2,b3,b4,b5,b6,b7,b8,b9⟩:=msgOk_bounds kd fr tt tm ix lt cm ok es cf da la hk;obtain ⟨k1,k2,k3,k4⟩:=msgOk_first kd fr tt tm ix lt cm ok es cf da la hk;obtain ⟨a1,a2,a3,a4,a7,u1,u2,u3,-,w4,w5,w6,w7,w8,w9,w10,w11⟩:=msg_places kd fr tt tm ix lt cm ok es cf da la hb;have l4:=w4.le;have l5:=w5.le;have l6:=w6.le;have l7:=w7.le;have l8:=w8.le;have l9:=w9.le;have l10:=w10.le;obtain ⟨v1,v2⟩:=w11.split;obtain ⟨v2,v3⟩:=v2.split;have zc:=confText_size cf
 unfold impl_Decode.f
 refine Ev.call ((impl_reader_byte_eq s 0 false (by omega) (by omega) (by omega)).trans (congrArg some (curByte_fwd u1))) (Ev.call ((impl_reader_byte_eq s 1 false (by omega) (by omega) (by omega)).trans (congrArg some (curByte_fwd u2))) (Ev.call ((impl_reader_byte_eq s 2 false (by omega) (by omega) (by omega)).trans (congrArg some (curByte_fwd u3))) ?_));refine Ev.bind (Ev.eq (impl_reader_num_ev s _ false (by omega)) (curNum_fwd w4 (by omega))) (Ev.bind (Ev.eq (impl_reader_num_ev s _ false (by omega)) (curNum_fwd w5 (by omega))) (Ev.bind (Ev.eq (impl_reader_num_ev s _ false (by omega)) (curNum_fwd w6 (by omega))) (Ev.bind (Ev.eq (impl_reader_num_ev s _ false (by omega)) (curNum_fwd w7 (by omega))) ?_)));refine Ev.call ((impl_reader_byte_eq s a4 false (by omega) (by omega) (by omega)).trans (congrArg some (curByte_fwd w8))) (Ev.call ((impl_reader_byte_eq s (a4 + 1) false (by omega) (by omega) (by omega)).trans (congrArg some (curByte_fwd w9))) ?_);refine Ev.bind (a:=(s,a7 + ((es.flatMap entBytes).length : Int),false,es)) ?_ ?_
 ·unfold impl_Decode.each
  refine Ev.bind (Ev.eq (impl_reader_num_ev s _ false (by omega)) (curNum_fwd w10 (by omega))) ?_;have:=impl_Decode_fwd s hs es 0 [] a7 _ k4 (by omega) rfl v1;rw [Nat.zero_add] at this;exact this
 ·refine Ev.bind (Ev.eq (impl_reader_text_ev s _ false (by omega)) (curText_fwd v2 (by omega))) (Ev.pos (by dsimp only;omega) (Ev.bind (Ev.eq (impl_reader_text_ev s _ false (by omega)) (curText_fwd v3 (by omega))) ?_));simp only [(flag_at ok).2.2.2,(flag_at la).2.2.2,Int.toNat_of_nonneg b1.1,Int.toNat_of_nonneg b2.1,Int.toNat_of_nonneg b3.1,Int.toNat_of_nonneg b4.1,conf_map b9];exact Ev.bind (Ev.eq (impl_Encode_ev kd fr tt tm ix lt cm ok es cf da la (by omega) (fun x hx => by have:=b6 x hx;omega) (by omega)) h) (Ev.neg (by simp) (Ev.pos rfl (Ev.pos rfl (Ev.now _))))
theorem spec_l01Text_loop {l : List Int} (hl : l.length ≤ 140737488351232) (N : Int) (hN : N ≤ 5000) : ∀ (m n : Nat) (acc : List Int) (i y : Int), 5000 - n ≤ m → n ≤ 5000 → acc.length = n → Cur l i →
  To (fun k => spec_l01Text.l0 k N acc (n : Int) l i y) (fun r => r.1.size ≤ 5000 ∧ Cur l r.2.1):=by
 intro m
 induction m with
 | zero =>
  intro n acc i y h1 h2 h3 hc;refine To.step (fun _ => rfl) ?_;simp only [spec_l01Text.l0];exact To.neg (by omega) (To.now ⟨by rw [strOfNums_size];omega,hc⟩)
 | succ m ih =>
  intro n acc i y h1 h2 h3 hc;refine To.step (fun _ => rfl) ?_;simp only [spec_l01Text.l0,wrap64_succ (show n ≤ 9223372036854775806 by omega)];refine To.ite (fun c => To.bind (spec_l01Byte_to hl y hc) (fun r p => To.pos (by omega) (ih (n + 1) _ _ _ (by omega) (by omega) (by simp [h3]) p.2.2))) (fun _ => To.now ⟨by rw [strOfNums_size];omega,hc⟩)
theorem spec_l01Text_to {l : List Int} (hl : l.length ≤ 140737488351232) {i : Int} (y : Int) (h : Cur l i) (n : Int) : To (fun k => spec_l01Text.f k l i y n) (fun r => r.1.size ≤ 5000 ∧ Cur l r.2.1) := by
 unfold spec_l01Text.f
 refine To.ite (fun _ => To.step (fun _ => rfl) ?_) (fun c => To.step (fun _ => rfl) ?_)
 ·simp only [spec_l01Text.j0];exact spec_l01Text_loop hl 5000 (by omega) 5000 0 [] i y (by omega) (by omega) rfl h
 ·simp only [spec_l01Text.j0];exact spec_l01Text_loop hl n (by omega) 5000 0 [] i y (by omega) (by omega) rfl h
def MsgB (l : List Int) (r : Int × Int × Int × Int × Int × Int × Int × Bool × List S69 × List Int × ByteArray × Bool × Int × Int) : Prop :=
 r.2.2.2.2.2.2.2.2.1.length ≤ 5 ∧ (∀ x ∈ r.2.2.2.2.2.2.2.2.1,x.f2.size ≤ 1000) ∧ r.2.2.2.2.2.2.2.2.2.1.length ≤ 4 ∧ Cur l r.2.2.2.2.2.2.2.2.2.2.2.2.1
theorem spec_l14Right_loop {l : List Int} (hl : l.length ≤ 140737488351232) (kd fr tt tm ix lt cm : Int) (ok : Bool) (da : ByteArray) (la : Bool) : ∀ (m n : Nat) (x i y : Int) (acc : List S69), 5 - n ≤ m → n ≤ 5 → acc.length = n → (∀ z ∈ acc, z.f2.size ≤ 1000) → Cur l i →
  To (fun k => spec_l14Right.l0 k x (n : Int) l i y kd fr tt tm ix lt cm ok acc da la) (MsgB l):=by
 intro m
 induction m with
 | zero =>
  intro n x i y acc h1 h2 h3 hd hc;refine To.step (fun _ => rfl) ?_;simp only [spec_l14Right.l0];refine To.bind (spec_l01Below_to hl y hc 5) (fun r p => To.neg ?_ (To.now ⟨by dsimp only;omega,hd,Nat.zero_le _,p.2.2⟩));have:=p.2.1 (by omega)
  omega
 | succ m ih =>
  intro n x i y acc h1 h2 h3 hd hc;refine To.step (fun _ => rfl) ?_;simp only [spec_l14Right.l0,wrap64_succ (show n ≤ 9223372036854775806 by omega)];refine To.bind (spec_l01Below_to hl y hc 5) (fun r p => To.ite (fun c => ?_) (fun _ => To.now ⟨by dsimp only;omega,hd,Nat.zero_le _,p.2.2⟩));have:=p.2.1 (by omega);refine To.bind (spec_l01Below_to hl _ p.2.2 _) (fun r2 p2 => To.bind (spec_l11Right_to hl _ p2.2.2 _) (fun r3 p3 => To.pos (by omega) (ih (n + 1) _ _ _ _ (by omega) (by omega) (by simp [h3]) ?_ p3.2)));intro z hz
  rcases List.mem_append.1 hz with hz|hz
  ·exact hd z hz
  ·rw [List.mem_singleton.1 hz];exact p3.1
theorem spec_l14Right_to {l : List Int} (hl : l.length ≤ 140737488351232) {i : Int} (y : Int) (h : Cur l i) : To (fun k => spec_l14Right.f k l i y) (MsgB l) := by
 unfold spec_l14Right.f
 refine To.bind (spec_l01Below_to hl y h 6) (fun r1 p1 => To.bind (spec_l01Below_to hl _ p1.2.2 4) (fun r2 p2 => To.bind (spec_l01Below_to hl _ p2.2.2 8) (fun r3 p3 => To.bind (spec_l01Below_to hl _ p3.2.2 12) (fun r4 p4 => To.bind (spec_l01Below_to hl _ p4.2.2 5) (fun r5 p5 => To.bind (spec_l01Below_to hl _ p5.2.2 9) (fun r6 p6 => To.bind (spec_l01Once_to hl _ p6.2.2 2) (fun r7 p7 => ?_)))))));refine To.ite (fun _ => To.bind (spec_l01Below_to hl _ p7 _) (fun r8 p8 => spec_l14Right_loop hl _ _ _ _ _ _ _ _ _ _ 5 0 _ _ _ [] (by omega) (by omega) rfl (fun z hz => by cases hz) p8.2.2)) (fun _ => To.ite (fun _ => ?_) (fun _ => To.now ⟨Nat.zero_le _,(fun z hz => by cases hz),Nat.zero_le _,p7⟩));exact To.bind (spec_l07Conf_to hl _ p7) (fun r8 p8 => To.bind (spec_l01Below_to hl _ p8.2 9) (fun r9 p9 => To.bind (spec_l01Text_to hl _ p9.2.2 _) (fun r10 p10 => To.bind (spec_l01Once_to hl _ p10.2 2) (fun r11 p11 => To.now ⟨Nat.zero_le _,(fun z hz => by cases hz),p8.1,p11⟩))))
def MsgB' (l : List Int) (r : Int × Int × Int × Int × Int × Int × Int × Bool × List S69 × List Int × ByteArray × Bool × Int × Int) : Prop :=
 r.2.2.2.2.2.2.2.2.1.length ≤ 6 ∧ (∀ x ∈ r.2.2.2.2.2.2.2.2.1,x.f2.size ≤ 1000) ∧ r.2.2.2.2.2.2.2.2.2.1.length ≤ 5
theorem spec_l14Any_to {l : List Int} (hl : l.length ≤ 140737488351232) {i : Int} (y : Int) (h : Cur l i) : To (fun k => spec_l14Any.f k l i y) (fun r => MsgB' l r ∧ Cur l r.2.2.2.2.2.2.2.2.2.2.2.2.1) := by
 unfold spec_l14Any.f
 refine To.bind (spec_l14Right_to hl y h) (fun r p => To.bind (spec_l01Below_to hl _ p.2.2.2 40) (fun q pq => ?_))
 have p1 : r.2.2.2.2.2.2.2.2.1.length ≤ 6:=by have:=p.1;omega
 have p3 : r.2.2.2.2.2.2.2.2.2.1.length ≤ 5:=by have:=p.2.2.1;omega
 refine To.ite (fun _ => To.bind (spec_l01PickInt_to hl _ pq.2.2 _ (by simp)) (fun z pz => To.now ⟨⟨p1,p.2.1,p3⟩,pz.2⟩)) (fun _ => ?_);refine To.ite (fun _ => To.bind (spec_l01PickInt_to hl _ pq.2.2 _ (by simp)) (fun z pz => To.now ⟨⟨p1,p.2.1,p3⟩,pz.2⟩)) (fun _ => ?_);refine To.ite (fun _ => To.bind (spec_l01PickInt_to hl _ pq.2.2 _ (by simp)) (fun z pz => To.now ⟨⟨p1,p.2.1,p3⟩,pz.2⟩)) (fun _ => ?_);refine To.ite (fun _ => To.bind (spec_l01PickInt_to hl _ pq.2.2 _ (by simp)) (fun z pz => To.now ⟨⟨p1,p.2.1,p3⟩,pz.2⟩)) (fun _ => ?_);refine To.ite (fun _ => To.bind (spec_l11Any_to hl _ pq.2.2) (fun z pz => To.pos (by omega) (To.now ⟨⟨by have:=p.1;simp only [List.length_append,List.length_singleton];omega,?_,p3⟩,pz.2⟩))) (fun _ => ?_)
 ·intro x hx
  rcases List.mem_append.1 hx with hx|hx
  ·exact p.2.1 x hx
  ·rw [List.mem_singleton.1 hx];exact pz.1
 refine To.ite (fun _ => To.bind (spec_l01Below_to hl _ pq.2.2 2) (fun z pz => ?_)) (fun _ => ?_)
 ·have:=pz.2.1 (by omega);have hw : wrap64 (60 + z.1) = 60 + z.1:=wrap64_id (by omega) (by omega);rw [hw];exact To.bind (spec_l01Long_to (60 + z.1) 65 (by omega) (by omega)) (fun t pt => To.now ⟨⟨p1,p.2.1,p3⟩,pz.2.2⟩)
 refine To.ite (fun _ => To.bind (spec_l07AnyConf_to hl _ pq.2.2) (fun z pz => To.now ⟨⟨p1,p.2.1,pz.1⟩,pz.2⟩)) (fun _ => ?_);exact To.ite (fun _ => To.now ⟨⟨p1,p.2.1,p3⟩,pq.2.2⟩) (fun _ => To.now ⟨⟨p1,p.2.1,p3⟩,pq.2.2⟩)
theorem spec_DrawEncode_to (l : List Int) (hl : l.length ≤ 140737488351232) : To (fun k => spec_DrawEncode.f k l) (fun r => r.2.2.2.2.2.2.2.2.1.length ≤ 6 ∧ (∀ x ∈ r.2.2.2.2.2.2.2.2.1, x.f2.size ≤ 1000) ∧ r.2.2.2.2.2.2.2.2.2.1.length ≤ 5) := by
 unfold spec_DrawEncode.f
 refine To.bind (spec_l01New_to l hl) (fun r hr => ?_);obtain ⟨z,rfl⟩:=hr;exact To.bind (spec_l14Any_to hl z (Cur.zero l)) (fun r p => To.now p.1)
theorem laws_sameMessage_loop (kd fr tt tm ix lt cm : Int) (ok : Bool) (es : List S69) (cf : List Int) (da : ByteArray) (la : Bool) (hx : es.length ≤ 1048576) : ∀ (rest : List S69) (n : Nat), es.drop n = rest → Ev (fun k => laws_sameMessage.l0 k (n : Int) kd fr tt tm ix lt cm ok es cf da la kd fr tt tm ix lt cm ok es cf da la) true := by
 intro rest
 induction rest with
 | nil =>
  intro n h;have:=drop_nil h;refine Ev.step (fun _ => rfl) ?_;simp only [laws_sameMessage.l0];exact Ev.neg (by omega) (Ev.pos (by first|trivial|rfl) (Ev.pos (by first|trivial|rfl) (Ev.pos (by first|trivial|rfl) (Ev.pos (by first|trivial|rfl) (Ev.pos (by first|trivial|rfl) (Ev.pos (by first|trivial|rfl) (Ev.pos (by first|trivial|rfl) (Ev.pos (by simp) (Ev.pos (by first|trivial|rfl) (Ev.done (by simp)))))))))))
 | cons x t ih =>
  intro n h;obtain ⟨h1,-,h3⟩:=drop_cons h;refine Ev.step (fun _ => rfl) ?_;simp only [laws_sameMessage.l0,wrap64_succ (show n ≤ 9223372036854775806 by omega)];exact Ev.pos (by omega) (Ev.pos (by omega) (Ev.pos (by omega) (Ev.neg (by simp) (ih (n + 1) h3))))
theorem laws_sameMessage_refl (kd fr tt tm ix lt cm : Int) (ok : Bool) (es : List S69) (cf : List Int) (da : ByteArray) (la : Bool) (hx : es.length ≤ 1048576) (hc : cf.length ≤ 1048576) : Ev (fun k => laws_sameMessage.f k kd fr tt tm ix lt cm ok es cf da la kd fr tt tm ix lt cm ok es cf da la) true := by
 unfold laws_sameMessage.f
 refine Ev.pos rfl (Ev.bind (laws_sameInts_refl cf hc) (Ev.step (fun _ => rfl) ?_));simp only [laws_sameMessage.j0];exact Ev.neg (by simp) (laws_sameMessage_loop kd fr tt tm ix lt cm ok es cf da la hx es 0 rfl)
theorem spec_l02Spoilt_to {l : List Int} (hl : l.length ≤ 140737488351232) {i : Int} (y : Int) (h : Cur l i) (s : ByteArray) (hs : s.size ≤ 100000) : To (fun k => spec_l02Spoilt.f k l i y s) (fun r => r.1.size ≤ 110000) := by
 have j : ∀ (b : Bool) (i y : Int),Cur l i → To (fun k => spec_l02Spoilt.j0 k s b l i y) (fun r => r.1.size ≤ 110000):=by
  intro b i y h;refine To.step (fun _ => rfl) ?_;simp only [spec_l02Spoilt.j0];refine To.ite (fun _ => To.ite (fun c => ?_) (fun _ => To.now (by dsimp only;omega))) (fun _ => To.now (by dsimp only;omega));refine To.bind (spec_l01Below_to hl y h _) (fun r p => ?_);have hp:=p.2.1 (by omega);have hw : wrap64 (r.1 + 1) = r.1 + 1:=wrap64_id (by omega) (by omega);refine To.pos p.1 (To.pos (by omega) (To.bind (spec_l01Text_to hl _ p.2.2 1) (fun q pq => ?_)));rw [hw]
  have z1 : (s.extract 0 (r.1 : Int).toNat).size ≤ s.size:=by rw [ByteArray.size_extract];omega
  have z2 : (s.extract (r.1 + 1 : Int).toNat s.size).size ≤ s.size:=by rw [ByteArray.size_extract];omega
  have z3:=pq.1;exact To.pos (by omega) (To.pos (by omega) (To.pos (by omega) (To.pos (by simp only [size_append];omega) (To.now (by simp only [size_append,ByteArray.size_extract];omega)))))
 unfold spec_l02Spoilt.f
 refine To.bind (spec_l01Below_to hl y h 12) (fun r p => To.ite (fun _ => ?_) (fun _ => To.ite (fun _ => ?_) (fun _ => To.ite (fun _ => j _ _ _ p.2.2) (fun _ => j _ _ _ p.2.2))))
 ·exact To.bind (spec_l01Text_to hl _ p.2.2 1) (fun q pq => To.pos (by have:=pq.1;omega) (To.now (by have:=pq.1;simp only [size_append];omega)))
 ·have hw : wrap64 ((s.size : Int) + 1) = s.size + 1:=wrap64_id (by omega) (by omega);rw [hw];refine To.bind (spec_l01Below_to hl _ p.2.2 _) (fun q pq => ?_);have:=pq.2.1 (by omega);exact To.pos pq.1 (To.pos (by omega) (To.now (by simp only [ByteArray.size_extract];omega)))
theorem encode_size (kd fr tt tm ix lt cm : Int) (ok : Bool) (es : List S69) (cf : List Int) (da : ByteArray) (la : Bool) : (encode kd fr tt tm ix lt cm ok es cf da la).1.size ≤ 10000 := by
 unfold encode
 split
 ·rename_i hk
  obtain ⟨b1,b2,b3,b4,b5,b6,b7,b8,-⟩:=msgOk_bounds kd fr tt tm ix lt cm ok es cf da la hk;have hz:=encHead_size kd fr tt tm ix lt cm ok la es.length b1.2 b2.2 b3.2 b4.2 b5;have z1:=confText_size cf;have s1:=shortText_size (show (confText cf).1.size ≤ 34359738367 by omega);have s2:=shortText_size (show da.size ≤ 34359738367 by omega)
  have hr : ∀ (t : List S69) (acc : ByteArray),(∀ x ∈ t,x.f2.size ≤ 120) → (encRows acc t).size ≤ acc.size + 200 * t.length:=by
   intro t
   induction t with
   | nil => intro acc _;simp [encRows]
   | cons x r ih =>
    intro acc h;have he:=entryText_size 1 x.f0 x.f1 x.f2;have hx:=h x List.mem_cons_self;have hs:=shortText_size (show (entryText 1 x.f0 x.f1 x.f2).1.size ≤ 34359738367 by omega);have:=ih (acc ++ shortText (entryText 1 x.f0 x.f1 x.f2).1) (fun z hz => h z (List.mem_cons_of_mem _ hz));rw [size_append] at this;rw [encRows,List.length_cons];omega
  have:=hr es (encHead kd fr tt tm ix lt cm ok la es.length) b6;simp only [size_append]
  omega
 ·exact Nat.zero_le _
theorem spec_DrawDecode_to (l : List Int) (hl : l.length ≤ 140737488351232) : To (fun k => spec_DrawDecode.f k l) (fun s => s.size ≤ 110000) := by
 unfold spec_DrawDecode.f
 refine To.bind (spec_l01New_to l hl) (fun r hr => ?_);obtain ⟨z,rfl⟩:=hr;refine To.bind (spec_l14Any_to hl z (Cur.zero l)) (fun r p => ?_);refine To.bind (To.ev (P:=fun e => e.1.size ≤ 10000) (spec_Encode_ev _ _ _ _ _ _ _ _ _ _ _ _ (by have:=p.1.1;omega) (fun x hx => by have:=p.1.2.1 x hx;omega) (by have:=p.1.2.2;omega)) (encode_size _ _ _ _ _ _ _ _ _ _ _ _)) (fun e he => ?_);exact To.bind (spec_l02Spoilt_to hl _ p.2 e.1 (by omega)) (fun q hq => To.now hq)
theorem decode_both (s : ByteArray) (hs : s.size ≤ 1048576) : ∃ kd fr tt tm ix lt cm ok, ∃ (es : List S69) (cf : List Int), ∃ da la good, es.length ≤ 1048576 ∧ (∀ x ∈ es, x.f2.size ≤ 1048576) ∧ cf.length ≤ 1048576 ∧ Ev (fun k => spec_Decode.f k s) (kd, fr, tt, tm, ix, lt, cm, ok, es, cf, da, la, good) ∧ Ev (fun k => impl_Decode.f k s) (kd, fr, tt, tm, ix, lt, cm, ok, es, cf, da, la, good) ∧ (good = true → (encode kd fr tt tm ix lt cm ok es cf da la).1 = s) := by
 by_cases hex : ∃ kd fr tt tm ix lt cm ok es cf da la,encode kd fr tt tm ix lt cm ok es cf da la = (s,true)
 ·obtain ⟨kd,fr,tt,tm,ix,lt,cm,ok,es,cf,da,la,h⟩:=hex;have hb:=msgOk_bounds kd fr tt tm ix lt cm ok es cf da la (encode_parts kd fr tt tm ix lt cm ok es cf da la h).1;exact ⟨kd,fr,tt,tm,ix,lt,cm,ok,es,cf,da,la,true,by omega,fun x hx => by have:=hb.2.2.2.2.2.1 x hx;omega,by omega,spec_Decode_good kd fr tt tm ix lt cm ok es cf da la s hs h,impl_Decode_good kd fr tt tm ix lt cm ok es cf da la s hs h,fun _ => by rw [h]⟩
 ·obtain ⟨r,hr,p⟩:=spec_Decode_to s hs;obtain ⟨r',hr',p'⟩:=impl_Decode_to s hs
  rcases p with rfl|⟨kd,fr,tt,tm,ix,lt,cm,ok,es,cf,da,la,-,h⟩
  ·rcases p' with rfl|⟨kd,fr,tt,tm,ix,lt,cm,ok,es,cf,da,la,-,h⟩
   ·exact ⟨0,0,0,0,0,0,0,false,[],[],⟨#[]⟩,false,false,by simp,(fun x hx => by cases hx),by simp,hr,hr',fun h => by cases h⟩
   ·exact absurd ⟨kd,fr,tt,tm,ix,lt,cm,ok,es,cf,da,la,h⟩ hex
  ·exact absurd ⟨kd,fr,tt,tm,ix,lt,cm,ok,es,cf,da,la,h⟩ hex
theorem FnMessages_q (l : List Int) (q : l.length * 1 ≤ 140737488351232 ∧ ∀ x ∈ l, (Lit.int .u8 x).wf = true) : ∃ k, laws_FnMessages.f k l = some true := by
 apply Ev.rounds
 unfold laws_FnMessages.f
 refine Ev.call (a:=decide ((l.length : Int) > 1048576)) rfl (Ev.ite (fun _ => Ev.now _) (fun hc => ?_))
 have hl : l.length ≤ 140737488351232:=by omega
 obtain ⟨⟨kd,fr,tt,tm,ix,lt,cm,ok,es,cf,da,la⟩,hm,m1,m2,m3⟩:=spec_DrawEncode_to l hl;dsimp only at m1 m2 m3;have he:=impl_Encode_ev kd fr tt tm ix lt cm ok es cf da la (by omega) (fun x hx => by have:=m2 x hx;omega) (by omega);have hk:=spec_MessageOk_ev kd fr tt tm ix lt cm ok es cf da la (by omega) (fun x hx => by have:=m2 x hx;omega) (by omega)
 have tail : Ev (fun k => laws_FnMessages.j0 k l false) true:=by
  refine Ev.step (fun _ => rfl) ?_;simp only [laws_FnMessages.j0];obtain ⟨t,ht,hz⟩:=spec_DrawDecode_to l hl;obtain ⟨kd,fr,tt,tm,ix,lt,cm,ok,es,cf,da,la,good,n1,n2,n3,hs,hi,hg⟩:=decode_both t (by omega);have he:=impl_Encode_ev kd fr tt tm ix lt cm ok es cf da la n1 n2 n3;refine Ev.neg (by simp) (Ev.bind ht (Ev.bind hi (Ev.bind hs (Ev.bind he (Ev.pos (by simp) (Ev.ite (fun hc => Ev.done ?_) (fun _ => Ev.now _)))))));rw [hg hc];simp
 refine Ev.bind hm (Ev.bind he ?_)
 cases hok : msgOk kd fr tt tm ix lt cm ok es cf da la with
 | false =>
  have e0 : encode kd fr tt tm ix lt cm ok es cf da la = (⟨#[]⟩,false):=by unfold encode;rw [if_neg (by rw [hok];simp)]
  obtain ⟨r,hr,-⟩:=impl_Decode_to ⟨#[]⟩ (Nat.zero_le _);rw [e0];refine Ev.bind hr (Ev.bind (Ev.eq hk hok) (Ev.neg (by simp) (Ev.neg (by simp) tail)))
 | true =>
  have e1 : encode kd fr tt tm ix lt cm ok es cf da la = ((encode kd fr tt tm ix lt cm ok es cf da la).1,true):=by unfold encode;rw [if_pos hok]
  have hz:=encode_size kd fr tt tm ix lt cm ok es cf da la;have hd:=impl_Decode_good kd fr tt tm ix lt cm ok es cf da la (encode kd fr tt tm ix lt cm ok es cf da la).1 (by omega) e1
  have e2 : (encode kd fr tt tm ix lt cm ok es cf da la).2 = true:=by rw [e1]
  refine Ev.bind hd (Ev.bind (Ev.eq hk hok) (Ev.neg (by rw [e2];simp) (Ev.pos e2 (Ev.pos rfl (Ev.bind (laws_sameMessage_refl kd fr tt tm ix lt cm ok es cf da la (by omega) (by omega)) tail)))))
end Go.Proofs.Ytbcgnncbiblibaa.Pure
