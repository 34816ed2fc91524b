/- The pure statement of the law: its plain function answers true. No conditions but those that each statement names. By this repo's programs; comments are taken out. -/
import Derived.Lib.AtoiBound
import Derived.Test.YtlmicldpfnmeaaaGreatDoorVFnShelvesD
import Derived.Test.YtlmicldpfnmeaaaGreatDoorVFnShelvesA
set_option linter.all false
namespace Go.Ep
open Go.RowKit Go.Proofs.YtlmicldpfnmeaaaGreatDoorW.PrintWords Go.Proofs.YtlmicldpfnmeaaaGreatDoorW.PrintLast Go.Proofs.YtlmicldpfnmeaaaGreatDoorW.PrintMore Go.Ev
def Z01 {α:Type} (cf:α→Int) (xs:List α):Nat:=xs.countP (fun x => decide (cf x < 0))
theorem aheadN_le {α:Type} (cf:α→Int) (xs:List α):Z01 cf xs≤xs.length:=List.countP_le_length
theorem aheadN_eq {α:Type} (cf:α→Int):∀ (l:List α) (i:Nat),i≤l.length→(∀ t x,t < i→l[t]? = some x→cf x < 0)→(∀ t x,i≤t→l[t]? = some x→0≤cf x)→Z01 cf l = i
 | [],i,hi,_,_ => by simp at hi;simp [hi,Z01]
 | a::r,0,_,_,h2 => by
  unfold Z01
  rw [List.countP_eq_zero]
  intro x hx
  obtain ⟨t,ht,rfl⟩:=List.getElem_of_mem hx
  have:=h2 t _ (Nat.zero_le _) (List.getElem?_eq_getElem ht)
  simp;omega
 | a::r,i + 1,hi,h1,h2 => by
  have ha:=h1 0 a (Nat.succ_pos _) rfl
  have ih:=aheadN_eq cf r i (by simpa using hi) (fun t x ht hx => h1 (t + 1) x (by omega) (by simpa using hx)) (fun t x h3 hx => h2 (t + 1) x (by omega) (by simpa using hx))
  unfold Z01 at ih ⊢
  rw [List.countP_cons_of_pos (by simpa using ha),ih]
def stands {α:Type} (cf:α→Int) (xs:List α):Bool:=match xs[Z01 cf xs]? with | some x => decide (cf x = 0) | none => false
theorem less_irr:∀ (a:List UInt8),Op.bytesLess a a = false
 | [] => rfl
 | a::x => by
  have h1:¬ a < a:=fun e => by have:=UInt8.lt_iff_toNat_lt.mp e;omega
  simp [Op.bytesLess,h1,less_irr x]
theorem less_trans:∀ {a b c:List UInt8},Op.bytesLess a b = true→Op.bytesLess b c = true→Op.bytesLess a c = true
 | _,[],_,h,_ => by simp [Op.bytesLess] at h
 | _,_::_,[],_,h => by simp [Op.bytesLess] at h
 | [],_::_,_::_,_,_ => rfl
 | a::x,b::y,c::z,h,k => by
  simp only [Op.bytesLess,Bool.or_eq_true,Bool.and_eq_true,decide_eq_true_iff,beq_iff_eq] at h k ⊢
  rcases h with h | ⟨rfl,h⟩
  ·rcases k with k | ⟨rfl,k⟩
   ·exact .inl (UInt8.lt_trans h k)
   ·exact .inl h
  ·rcases k with k | ⟨rfl,k⟩
   ·exact .inl k
   ·exact .inr ⟨rfl,less_trans h k⟩
theorem less_tri:∀ {a b:List UInt8},Op.bytesLess a b = false→Op.bytesLess b a = false→a = b
 | [],[],_,_ => rfl
 | [],_::_,h,_ => by simp [Op.bytesLess] at h
 | _::_,[],_,k => by simp [Op.bytesLess] at k
 | a::x,b::y,h,k => by
  simp only [Op.bytesLess,Bool.or_eq_false_iff,Bool.and_eq_false_iff,decide_eq_false_iff_not,beq_eq_false_iff_ne] at h k
  obtain ⟨h1,h2⟩:=h
  obtain ⟨k1,k2⟩:=k
  have e:a = b:=by
   rw [UInt8.lt_iff_toNat_lt] at h1 k1
   exact UInt8.toNat_inj.mp (by omega)
  subst e
  rw [less_tri (a:=x) (b:=y) (by simpa using h2) (by simpa using k2)]
def lessK (a b:ByteArray):Bool:=Op.bytesLess a.toList b.toList
theorem cmp_less:∀ (a b:List UInt8),(Lib.compareBytes a b < 0↔Op.bytesLess a b = true)∧(Lib.compareBytes a b = 0↔a = b)
 | [],[] => by simp [Lib.compareBytes,Op.bytesLess]
 | [],_::_ => by simp [Lib.compareBytes,Op.bytesLess]
 | _::_,[] => by simp [Lib.compareBytes,Op.bytesLess]
 | a::x,b::y => by
  obtain ⟨ih1,ih2⟩:=cmp_less x y
  unfold Lib.compareBytes
  simp only [Op.bytesLess,Bool.or_eq_true,Bool.and_eq_true,decide_eq_true_iff,beq_iff_eq,List.cons.injEq]
  by_cases h1:a < b
  ·have h3:¬ a = b:=fun e => by subst e;exact absurd h1 (by rw [UInt8.lt_iff_toNat_lt];omega)
   rw [if_pos h1]
   exact ⟨by simp [h1],by simp [h3]⟩
  ·rw [if_neg h1]
   by_cases h2:b < a
   ·have h3:¬ a = b:=fun e => by subst e;exact absurd h2 (by rw [UInt8.lt_iff_toNat_lt];omega)
    rw [if_pos h2]
    exact ⟨by simp [h1,h3],by simp [h3]⟩
   ·rw [if_neg h2]
    have e:a = b:=by
     rw [UInt8.lt_iff_toNat_lt] at h1 h2
     exact UInt8.toNat_inj.mp (by omega)
    subst e
    exact ⟨by rw [ih1];simp [h1],by rw [ih2];simp⟩
theorem lt_tri (a b:ByteArray):lessK a b = true∨a = b∨lessK b a = true:=by
 cases h:lessK a b
 ·cases h':lessK b a
  ·exact .inr (.inl (toList_inj.1 (less_tri h h')))
  ·exact .inr (.inr rfl)
 ·exact .inl rfl
theorem lessK_irr (a:ByteArray):lessK a a = false:=less_irr _
theorem lessK_trans {a b c:ByteArray} (h:lessK a b = true) (k:lessK b c = true):lessK a c = true:=less_trans h k
theorem rdT122_drop {xs:List S122} {n:Nat} {x:S122} {t:List S122} (h:xs.drop n = x::t):Z0e xs (n:Int) = x:=by
 unfold Z0e
 rw [Int.toNat_natCast]
 exact (Zg h).2.1 _
theorem rdT122_get {xs:List S122} {n:Nat} (h:n < xs.length):xs[n]? = some (Z0e xs (n:Int)):=by
 unfold Z0e
 rw [Int.toNat_natCast]
 exact getD_get h
theorem rdT119_drop {xs:List S119} {n:Nat} {x:S119} {t:List S119} (h:xs.drop n = x::t):rd_T119 xs (n:Int) = x:=by
 unfold rd_T119
 rw [Int.toNat_natCast]
 exact (Zg h).2.1 _
theorem rdT162_drop {xs:List S162} {n:Nat} {x:S162} {t:List S162} (h:xs.drop n = x::t):ZP xs (n:Int) = x:=by
 unfold ZP
 rw [Int.toNat_natCast]
 exact (Zg h).2.1 _
theorem rdT162_get {xs:List S162} {n:Nat} (h:n < xs.length):xs[n]? = some (ZP xs (n:Int)):=by
 unfold ZP
 rw [Int.toNat_natCast]
 exact getD_get h
theorem rdT147_drop {xs:List S147} {n:Nat} {x:S147} {t:List S147} (h:xs.drop n = x::t):rd_T147 xs (n:Int) = x:=by
 unfold rd_T147
 rw [Int.toNat_natCast]
 exact (Zg h).2.1 _
theorem rdT145_drop {xs:List S145} {n:Nat} {x:S145} {t:List S145} (h:xs.drop n = x::t):Z8 xs (n:Int) = x:=by
 unfold Z8
 rw [Int.toNat_natCast]
 exact (Zg h).2.1 _
theorem Z0u (a b c:Int):ZH.f a b c = some (inR a b c):=by
 unfold ZH.f inR
 by_cases h:b≤a
 ·rw [if_pos h];simp [h]
 ·rw [if_neg h];simp [h]
theorem Z0d (a b c:Int):ZM.f a b c = some (inR a b c):=by
 unfold ZM.f inR
 by_cases h:b≤a
 ·rw [if_pos h];simp [h]
 ·rw [if_neg h];simp [h]
theorem spec_l07Rise_loop (xs:List Int) (lo hi:Int) (hx:xs.length≤9223372036854775806):∀ (rest:List Int) (n:Nat),xs.drop n = rest →
  Ev (fun k => Z0J.l0 k xs lo hi (n:Int)) (rise lo hi (prevOf xs n) rest):=by
 intro rest
 induction rest with
 | nil =>
  intro n h
  have:=ZA h
  refine Ev.step (fun _ => rfl) ?_
  simp only [Z0J.l0]
  exact Ev.neg (by omega) (Ev.done (by cases n <;> rfl))
 | cons x t ih =>
  intro n h
  obtain ⟨h1,-,h3⟩:=Zg h
  have ih:=ih (n + 1) h3
  rw [prevOf_next h] at ih
  refine Ev.step (fun _ => rfl) ?_
  simp only [Z0J.l0,drop_rd h,Z4 (show n≤9223372036854775806 by omega)]
  refine Ev.pos (by omega) (Ev.pos (by omega) (Ev.call (Z0u _ _ _) ?_))
  cases hb:inR x lo hi
  ·exact Ev.neg (by simp) (Ev.done (by cases n <;> simp [rise,prevOf,hb]))
  ·refine Ev.pos rfl ?_
   cases n with
   | zero => exact Ev.neg (by omega) (Ev.eq ih (by simp [rise,prevOf,hb]))
   | succ m =>
    refine Ev.pos (by omega) ?_
    simp only [wrap64_pred (show m≤9223372036854775806 by omega)]
    refine Ev.pos (by omega) (Ev.pos (by omega) (Ev.ite (fun hc => Ev.done ?_) (fun hc => Ev.eq ih ?_)))
    ·simp only [prevOf,rise,hb,decide_eq_false (show ¬ rd xs (m:Int) < x by omega)];simp
    ·simp only [prevOf,rise,hb,decide_eq_true (show rd xs (m:Int) < x by omega)];simp
theorem spec_l07Rise_ev (xs:List Int) (lo hi:Int) (hx:xs.length≤9223372036854775806):Ev (fun k => Z0J.f k xs lo hi) (rise lo hi none xs) :=
 spec_l07Rise_loop xs lo hi hx xs 0 rfl
theorem spec_ConfOk_ev (xs:List Int) (hx:xs.length≤9223372036854775806):Ev (fun k => spec_ConfOk.f k xs) (confOk xs):=by
 unfold spec_ConfOk.f
 refine Ev.call (Z0u _ _ _) ?_
 cases hb:inR xs.length 1 4
 ·exact Ev.neg (by simp) (Ev.done (by simp [confOk,hb]))
 ·exact Ev.pos rfl (Ev.bind (spec_l07Rise_ev xs 1 4 hx) (Ev.done (by simp [confOk,hb])))
theorem impl_ConfOk_loop (xs:List Int) (hx:xs.length≤9223372036854775806):∀ (rest:List Int) (n:Nat),xs.drop n = rest →
  Ev (fun k => impl_ConfOk.l0 k xs xs (xs.length:Int) (n:Int)) (rise 1 4 (prevOf xs n) rest && inR xs.length 1 4):=by
 intro rest
 induction rest with
 | nil =>
  intro n h
  have:=ZA h
  refine Ev.step (fun _ => rfl) ?_
  simp only [impl_ConfOk.l0]
  exact Ev.neg (by omega) (Ev.call (Z0d _ _ _) (Ev.done (by cases n <;> simp [rise])))
 | cons x t ih =>
  intro n h
  obtain ⟨h1,-,h3⟩:=Zg h
  have ih:=ih (n + 1) h3
  rw [prevOf_next h] at ih
  refine Ev.step (fun _ => rfl) ?_
  simp only [impl_ConfOk.l0,drop_rd h,Z4 (show n≤9223372036854775806 by omega)]
  refine Ev.pos (by omega) (Ev.pos (by omega) (Ev.pos (by omega) (Ev.call (Z0d _ _ _) ?_)))
  cases hb:inR x 1 4
  ·exact Ev.neg (by simp) (Ev.done (by cases n <;> simp [rise,prevOf,hb]))
  ·refine Ev.pos rfl ?_
   cases n with
   | zero => exact Ev.neg (by omega) (Ev.eq ih (by simp [rise,prevOf,hb]))
   | succ m =>
    refine Ev.pos (by omega) ?_
    simp only [wrap64_pred (show m≤9223372036854775806 by omega)]
    refine Ev.pos (by omega) (Ev.pos (by omega) (Ev.ite (fun hc => Ev.done ?_) (fun hc => Ev.eq ih ?_)))
    ·simp only [prevOf,rise,hb,decide_eq_false (show ¬ rd xs (m:Int) < x by omega)];simp
    ·simp only [prevOf,rise,hb,decide_eq_true (show rd xs (m:Int) < x by omega)];simp
theorem impl_ConfOk_ev (xs:List Int) (hx:xs.length≤9223372036854775806):Ev (fun k => impl_ConfOk.f k xs) (confOk xs) :=
 Ev.eq (impl_ConfOk_loop xs hx xs 0 rfl) (by rw [confOk,Bool.and_comm];rfl)
theorem spec_l09In_loop (xs:List Int) (v:Int) (hx:xs.length≤9223372036854775806):∀ (rest:List Int) (n:Nat),xs.drop n = rest →
  Ev (fun k => spec_l09In.l0 k xs v (n:Int)) (rest.contains v):=by
 intro rest
 induction rest with
 | nil =>
  intro n h
  have:=ZA h
  refine Ev.step (fun _ => rfl) ?_
  simp only [spec_l09In.l0]
  exact Ev.neg (by omega) (Ev.done (by simp))
 | cons x t ih =>
  intro n h
  obtain ⟨h1,-,h3⟩:=Zg h
  refine Ev.step (fun _ => rfl) ?_
  simp only [spec_l09In.l0,drop_rd h,Z4 (show n≤9223372036854775806 by omega)]
  refine Ev.pos (by omega) (Ev.pos (by omega) (Ev.ite (fun hc => Ev.done ?_) (fun hc => Ev.eq (ih (n + 1) h3) ?_)))
  ·rw [List.contains_cons,hc];simp
  ·rw [List.contains_cons,beq_eq_false_iff_ne.2 (fun e => hc e.symm)];simp
theorem spec_l09In_ev (xs:List Int) (v:Int) (hx:xs.length≤9223372036854775806):Ev (fun k => spec_l09In.f k xs v) (xs.contains v):=spec_l09In_loop xs v hx xs 0 rfl
theorem spec_l01Var_loop:∀ (n:Nat) (acc:List Int),acc.length + n < 140737488355328 →
  Ev (fun k => ZL.l0 k (n:Int) acc) (strOfNums (acc++varL n)):=by
 intro n
 induction n using Nat.strongRecOn with
 | ind n ih =>
  intro acc h
  refine Ev.step (fun _ => rfl) ?_
  simp only [ZL.l0,tdiv128 n (by omega),tmod128 n]
  refine Ev.ite (fun hc => ?_) (fun hc => ?_)
  ·rw [varL_big (by omega)]
   exact Ev.pos (by omega) (Ev.eq (ih (n / 128) (by omega) _ (by simp;omega)) (by simp))
  ·rw [varL_small (by omega)]
   exact Ev.pos (by omega) (Ev.done (by rw [Int.emod_eq_of_lt (by omega) (by omega)]))
theorem spec_l01Var_nat (n:Nat) (h:n≤34359738367):Ev (fun k => ZL.f k (n:Int)) (Zv n):=spec_l01Var_loop n [] (by simp;omega)
theorem spec_l01Var_ev (n:Int) (h0:0≤n) (h:n≤34359738367):Ev (fun k => ZL.f k n) (Zv n.toNat):=by
 obtain ⟨m,rfl⟩:=Int.eq_ofNat_of_zero_le h0
 exact spec_l01Var_nat m (by omega)
theorem impl_VarText_loop:∀ (n:Nat) (acc:List Int),acc.length + n < 140737488355328 →
  Ev (fun k => Z0l.l0 k (n:Int) acc) (strOfNums (acc++varL n),true):=by
 intro n
 induction n using Nat.strongRecOn with
 | ind n ih =>
  intro acc h
  refine Ev.step (fun _ => rfl) ?_
  simp only [Z0l.l0,tdiv128 n (by omega),tmod128 n]
  refine Ev.ite (fun hc => ?_) (fun hc => ?_)
  ·rw [varL_big (by omega)]
   exact Ev.pos (by omega) (Ev.eq (ih (n / 128) (by omega) _ (by simp;omega)) (by simp))
  ·rw [varL_small (by omega)]
   exact Ev.pos (by omega) (Ev.done (by rw [Int.emod_eq_of_lt (by omega) (by omega)]))
theorem impl_VarText_ev (n:Int):Ev (fun k => Z0l.f k n) (varTextOf n):=by
 unfold Z0l.f varTextOf
 refine Ev.call (Z0d _ _ _) ?_
 cases hb:inR n 0 1000000000
 ·exact Ev.neg (by simp) (Ev.done (by simp))
 ·have:=Zu.1 hb
  obtain ⟨m,rfl⟩:=Int.eq_ofNat_of_zero_le this.1
  exact Ev.pos rfl (Ev.eq (impl_VarText_loop m [] (by simp;omega)) (by simp [Zv]))
theorem impl_VarText_nat (n:Nat) (h:n≤1000000000):Ev (fun k => Z0l.f k (n:Int)) (Zv n,true) :=
 Ev.eq (impl_VarText_ev (n:Int)) (by rw [varTextOf,if_pos (Zu.2 (by omega))];rfl)
theorem impl_vars_loop (xs:List Int) (hx:xs.length≤1048576):∀ (rest:List Int) (n:Nat) (acc:List Int),xs.drop n = rest→acc.length + 5 * rest.length < 140737488355328 →
  Ev (fun k => impl_vars.l0 k acc xs (xs.length:Int) (n:Int)) (if rest.all (fun n => inR n 0 1000000000) = true then (strOfNums (acc++rest.flatMap fun n => varL n.toNat),true) else (⟨#[]⟩,false)):=by
 intro rest
 induction rest with
 | nil =>
  intro n acc h ha
  have:=ZA h
  refine Ev.step (fun _ => rfl) ?_
  simp only [impl_vars.l0]
  exact Ev.neg (by omega) (Ev.done (by simp))
 | cons x t ih =>
  intro n acc h ha
  obtain ⟨h1,-,h3⟩:=Zg h
  refine Ev.step (fun _ => rfl) ?_
  simp only [impl_vars.l0,drop_rd h,Z4 (show n≤9223372036854775806 by omega)]
  refine Ev.pos (by omega) (Ev.pos (by omega) (Ev.pos (by omega) (Ev.bind (impl_VarText_ev x) ?_)))
  unfold varTextOf
  cases hb:inR x 0 1000000000
  ·exact Ev.neg (by simp) (Ev.done (by simp [hb]))
  ·have hr:=Zu.1 hb
   have hv:=varL_len (show x.toNat≤34359738367 by omega)
   simp only [if_true,Zv,strOfNums_size,bytesOf_strOfNums _ (varL_bytes _)]
   rw [List.length_cons] at ha
   refine Ev.pos (by omega) (Ev.eq (ih (n + 1) (acc++varL x.toNat) h3 (by rw [List.length_append];omega)) ?_)
   simp [hb]
theorem impl_vars_ev (xs:List Int) (hx:xs.length≤1048576):Ev (fun k => impl_vars.f k xs) (varsOf xs) :=
 Ev.eq (impl_vars_loop xs hx xs 0 [] rfl (by simp;omega)) (by simp [varsOf])
theorem spec_l02Four_eq (x:Int):spec_l02Four.f x = some (four x):=rfl
theorem spec_SumMore_bits (s:ByteArray) (i:Nat) (hi:i≤9223372036854775806) (r:Int):∀ (d:Nat) (x:Int) (j:Nat),j + d = 8 →
  Ev (fun k => Z02.l0 k (sumBits d x) s ((i + 1:Nat):Int)) r→Ev (fun k => Z02.l1 k x s (i:Int) (j:Int)) r:=by
 intro d
 induction d with
 | zero =>
  intro x j hj h
  refine Ev.step (fun _ => rfl) ?_
  simp only [Z02.l1,Z4 hi]
  exact Ev.neg (by omega) h
 | succ d ih =>
  intro x j hj h
  refine Ev.step (fun _ => rfl) ?_
  simp only [Z02.l1,Z4 (show j≤9223372036854775806 by omega)]
  refine Ev.pos (by omega) (Ev.ite (fun hc => ih _ (j + 1) (by omega) ?_) (fun hc => ih _ (j + 1) (by omega) ?_))
  ·rw [sumBits,sumBit,if_pos hc] at h;exact h
  ·rw [sumBits,sumBit,if_neg hc] at h;exact h
theorem spec_SumMore_loop (s:ByteArray) (hs:s.size≤9223372036854775806):∀ (rest:List Int) (n:Nat) (x:Int),(bytesOf s).drop n = rest →
  Ev (fun k => Z02.l0 k x s (n:Int)) (sumMore x rest):=by
 intro rest
 induction rest with
 | nil =>
  intro n x h
  have:=bytesOf_drop_nil h
  refine Ev.step (fun _ => rfl) ?_
  simp only [Z02.l0]
  exact Ev.neg (by omega) (Ev.done rfl)
 | cons b t ih =>
  intro n x h
  obtain ⟨h1,h2,h3,h4,h5⟩:=bytesOf_drop_lt h
  refine Ev.step (fun _ => rfl) ?_
  simp only [Z02.l0,h2]
  exact Ev.pos (by omega) (Ev.pos (by omega) (spec_SumMore_bits s n (by omega) _ 8 _ 0 rfl (ih (n + 1) _ h3)))
theorem spec_SumMore_ev (x:Int) (s:ByteArray) (hs:s.size≤9223372036854775806):Ev (fun k => Z02.f k x s) (sumMore x (bytesOf s)):=spec_SumMore_loop s hs _ 0 x rfl
theorem spec_SumOf_ev (s:ByteArray) (hs:s.size≤9223372036854775806):Ev (fun k => spec_SumOf.f k s) (sumOf s):=Ev.bind (spec_SumMore_ev _ s hs) (Ev.now _)
theorem impl_SumMore_bits (s:ByteArray) (i:Nat) (hi:i≤9223372036854775806) (r:Int):∀ (d:Nat) (x:Int) (j:Nat),j + d = 8 →
  Ev (fun k => Z03.l0 k (sumBits d x) s ((i + 1:Nat):Int)) r→Ev (fun k => Z03.l1 k x s (i:Int) (j:Int)) r:=by
 intro d
 induction d with
 | zero =>
  intro x j hj h
  refine Ev.step (fun _ => rfl) ?_
  simp only [Z03.l1,Z4 hi]
  exact Ev.neg (by omega) h
 | succ d ih =>
  intro x j hj h
  refine Ev.step (fun _ => rfl) ?_
  simp only [Z03.l1,Z4 (show j≤9223372036854775806 by omega)]
  refine Ev.pos (by omega) (Ev.ite (fun hc => ih _ (j + 1) (by omega) ?_) (fun hc => ih _ (j + 1) (by omega) ?_))
  ·rw [sumBits,sumBit,if_pos hc] at h;exact h
  ·rw [sumBits,sumBit,if_neg hc] at h;exact h
theorem impl_SumMore_loop (s:ByteArray) (hs:s.size≤9223372036854775806):∀ (rest:List Int) (n:Nat) (x:Int),(bytesOf s).drop n = rest →
  Ev (fun k => Z03.l0 k x s (n:Int)) (sumMore x rest):=by
 intro rest
 induction rest with
 | nil =>
  intro n x h
  have:=bytesOf_drop_nil h
  refine Ev.step (fun _ => rfl) ?_
  simp only [Z03.l0]
  exact Ev.neg (by omega) (Ev.done rfl)
 | cons b t ih =>
  intro n x h
  obtain ⟨h1,h2,h3,h4,h5⟩:=bytesOf_drop_lt h
  refine Ev.step (fun _ => rfl) ?_
  simp only [Z03.l0,h2]
  exact Ev.pos (by omega) (Ev.pos (by omega) (impl_SumMore_bits s n (by omega) _ 8 _ 0 rfl (ih (n + 1) _ h3)))
theorem impl_SumMore_ev (x:Int) (s:ByteArray) (hs:s.size≤9223372036854775806):Ev (fun k => Z03.f k x s) (sumMore x (bytesOf s)):=impl_SumMore_loop s hs _ 0 x rfl
theorem impl_SumOf_ev (s:ByteArray) (hs:s.size≤9223372036854775806):Ev (fun k => impl_SumOf.f k s) (sumOf s):=Ev.bind (impl_SumMore_ev _ s hs) (Ev.now _)
theorem spec_Frame_ev (s:ByteArray) (hs:s.size≤1152921504606846976):Ev (fun k => spec_Frame.f k s) (frame s):=by
 unfold spec_Frame.f frame
 refine Ev.call (Z0u _ _ _) ?_
 cases hb:inR (s.size:Int) 1 9000
 ·exact Ev.neg (by simp) (Ev.done (by simp))
 ·have hr:=Zu.1 hb
  have hv:=Z10 (show s.size≤34359738367 by omega)
  have h4:=four_size (sumOf s)
  refine Ev.pos rfl (Ev.bind (spec_l01Var_nat _ (by omega)) (Ev.bind (spec_SumOf_ev s (by omega)) (Ev.call (spec_l02Four_eq _) ?_)))
  exact Ev.pos (by omega) (Ev.pos (by rw [size_append];omega) (Ev.done (by simp)))
theorem impl_Frame_ev (s:ByteArray) (hs:s.size≤1152921504606846976):Ev (fun k => impl_Frame.f k s) (frame s):=by
 unfold impl_Frame.f frame
 refine Ev.call (Z0d _ _ _) ?_
 cases hb:inR (s.size:Int) 1 9000
 ·exact Ev.neg (by simp) (Ev.done (by simp))
 ·have hr:=Zu.1 hb
  have hv:=Z10 (show s.size≤34359738367 by omega)
  have h4:=four_size (sumOf s)
  refine Ev.pos rfl (Ev.bind (impl_VarText_nat _ (by omega)) (Ev.bind (impl_SumOf_ev s (by omega)) (Ev.call rfl ?_)))
  rw [four] at h4
  exact Ev.pos (by dsimp only;omega) (Ev.pos (by rw [size_append];dsimp only;omega) (Ev.done (by simp [four])))
theorem spec_l05Short_ev (s:ByteArray) (hs:s.size≤1073741824):Ev (fun k => spec_l05Short.f k s) (ZJ s):=by
 have h:=Z10 (show s.size≤34359738367 by omega)
 exact Ev.bind (spec_l01Var_nat _ (by omega)) (Ev.pos (by omega) (Ev.now _))
theorem impl_ShortText_ev (s:ByteArray) (hs:s.size≤20000):Ev (fun k => impl_ShortText.f k s) (ZJ s,true):=by
 have h:=Z10 (show s.size≤34359738367 by omega)
 exact Ev.neg (by omega) (Ev.bind (impl_VarText_nat _ (by omega)) (Ev.pos (by dsimp only;omega) (Ev.now _)))
theorem impl_short_ev (s:ByteArray) (hs:s.size≤20000):Ev (fun k => impl_short.f k s) (ZJ s):=Ev.bind (impl_ShortText_ev s hs) (Ev.now _)
theorem spec_ReadVar_loop (s:ByteArray) (a:Nat) (hs:s.size≤1152921504606846976) (ha:a≤s.size):∀ (k:Nat) (rest done:List Int) (i:Nat),i + k = 5→done.length = i→(bytesOf s).drop a = done++rest →
  Ev (fun K => ZB.l0 K s (a:Int) (val done:Int) ((128 ^ i:Nat):Int) ((a + i:Nat):Int))
   (match varSeg k rest with | none => (0,0,false) | some bs => if val (done++bs)≤1000000000∧varL (val (done++bs)) = done++bs then ((val (done++bs):Int),((a + (done++bs).length:Nat):Int),true) else (0,0,false)):=by
 intro k
 have hz:=Zk s
 have no:∀ (x7 x8 x9:Int) r,r = (0,0,false)→Ev (fun K => ZB.j1 K s (a:Int) x7 x8 x9 false) r:=by
  rintro x7 x8 x9 r rfl
  refine Ev.step (fun _ => rfl) ?_
  simp only [ZB.j1]
  exact Ev.neg (by simp) (Ev.now _)
 induction k with
 | zero =>
  intro rest done i hi hd hr
  refine Ev.step (fun _ => rfl) ?_
  simp only [ZB.l0,Z9 (show -9223372036854775808≤(a:Int) + 5 by omega) (show (a:Int) + 5≤9223372036854775807 by omega)]
  refine Ev.ite (fun _ => ?_) (fun _ => no _ _ _ _ rfl)
  rw [decide_eq_false (by omega)]
  exact no _ _ _ _ rfl
 | succ k ih =>
  intro rest done i hi hd hr
  have hl:done.length + rest.length = s.size - a:=by rw [←List.length_append,←hr,List.length_drop,hz]
  cases rest with
  | nil =>
   refine Ev.step (fun _ => rfl) ?_
   simp only [ZB.l0]
   rw [List.length_nil] at hl
   exact Ev.neg (by omega) (no _ _ _ _ rfl)
  | cons b t =>
   have hbt:bt s ((a + i:Nat):Int) = b:=by
    rw [←rd_bytesOf,rd_nat]
    have e:(bytesOf s).drop (a + i) = b::t:=by rw [←List.drop_drop,hr,List.drop_append_of_le_length (by omega),←hd,List.drop_length,List.nil_append]
    exact (Zg e).2.1 0
   have hb:=bytesOf_range s b (by
    have:b∈(bytesOf s).drop a:=by rw [hr];simp
    exact List.mem_of_mem_drop this)
   rw [List.length_cons] at hl
   have hsc:=scale_bound (show i≤5 by omega)
   have hvd:=val_lt done
   rw [hd] at hvd
   have e1:Int.tmod (wrap64 b) 128 = b % 128:=byte_mod hb.1 hb.2
   have hpos:0 < 128 ^ i:=Nat.pow_pos (by omega)
   have hmul:(b % 128) * ((128 ^ i:Nat):Int) = (((b % 128).toNat * 128 ^ i:Nat):Int):=by
    rw [Int.natCast_mul,Int.toNat_of_nonneg (by omega)]
   have hmb:(b % 128).toNat * 128 ^ i≤127 * 128 ^ i:=Nat.mul_le_mul_right _ (by omega)
   have e2:wrap64 ((val done:Int) + wrap64 (Int.tmod (wrap64 b) 128 * ((128 ^ i:Nat):Int))) = (val (done++[b]):Int):=by
    rw [e1,hmul,Z9 (n:=(((b % 128).toNat * 128 ^ i:Nat):Int)) (by omega) (by omega),Z9 (by omega) (by omega),val_append,hd]
    rw [show val [b] = (b % 128).toNat by simp [val],Nat.mul_comm (128 ^ i)]
    omega
   have hval:val (done++[b]) < 128 ^ (i + 1):=by
    have:=val_lt (done++[b])
    rwa [List.length_append,hd] at this
   have hsc':=scale_bound (show i + 1≤5 by omega)
   refine Ev.step (fun _ => rfl) ?_
   simp only [ZB.l0,Z9 (show -9223372036854775808≤(a:Int) + 5 by omega) (show (a:Int) + 5≤9223372036854775807 by omega)]
   rw [decide_eq_true (show ((a + i:Nat):Int) < (a:Int) + 5 by omega)]
   refine Ev.pos (by omega) (Ev.step (fun _ => rfl) ?_)
   simp only [ZB.j1,hbt,e2,Z4 (show a + i≤9223372036854775806 by omega)]
   refine Ev.pos trivial (Ev.pos (by omega) (Ev.pos (by omega) (Ev.ite (fun hlt => ?_) (fun hge => ?_))))
   ·rw [varSeg,if_pos hlt]
    simp only []
    refine Ev.ite (fun hbig => Ev.done ?_) (fun hsmall => ?_)
    ·rw [if_neg (by omega)]
    ·have hex:(s.extract (a:Int).toNat ((a + i + 1:Nat):Int).toNat).toList = (strOfNums (done++[b])).toList:=by
      rw [toList_iff,bytesOf_extract,Int.toNat_natCast,Int.toNat_natCast,List.drop_take,hr,bytesOf_strOfNums _ (by
       intro x hx
       refine bytesOf_range s x ?_
       have:x∈(bytesOf s).drop a:=by rw [hr];rcases List.mem_append.1 hx with h | h <;> simp_all
       exact List.mem_of_mem_drop this)]
      rw [show a + i + 1 - a = done.length + 1 by omega]
      rw [List.take_append,List.take_of_length_le (by omega)]
      simp
     refine Ev.bind (spec_l01Var_nat _ (by omega)) (Ev.pos (by omega) (Ev.pos (by omega) (Ev.pos (by omega) ?_)))
     rw [hex]
     have hiff:(Zv (val (done++[b]))).toList = (strOfNums (done++[b])).toList↔varL (val (done++[b])) = done++[b]:=by
      rw [toList_iff,bytesOf_varText,bytesOf_strOfNums _ (by
       intro x hx
       refine bytesOf_range s x ?_
       have:x∈(bytesOf s).drop a:=by rw [hr];rcases List.mem_append.1 hx with h | h <;> simp_all
       exact List.mem_of_mem_drop this)]
     refine Ev.ite (fun hc => Ev.done ?_) (fun hc => Ev.done ?_)
     ·rw [if_pos ⟨by omega,hiff.1 hc⟩,List.length_append,hd];rfl
     ·rw [if_neg (fun h => hc (hiff.2 h.2))]
   ·have ih:=ih t (done++[b]) (i + 1) (by omega) (by simp [hd]) (by rw [hr];simp)
    rw [varSeg,if_neg hge]
    have e3:wrap64 (((128 ^ i:Nat):Int) * 128) = ((128 ^ (i + 1):Nat):Int):=by
     rw [Z9 (by omega) (by omega),Nat.pow_succ,Int.natCast_mul];rfl
    rw [e3]
    refine Ev.eq ih ?_
    cases varSeg k t with
    | none => rfl
    | some bs => simp only [Option.map_some,List.append_assoc,List.cons_append,List.nil_append]
theorem spec_ReadVar_ev (s:ByteArray) (a:Int) (hs:s.size≤1152921504606846976):Ev (fun k => ZB.f k s a) (Zi s a):=by
 unfold ZB.f Zi
 refine Ev.call (Z0u _ _ _) ?_
 cases hb:inR a 0 s.size
 ·exact Ev.neg (by simp) (Ev.done (by simp))
 ·have hr:=Zu.1 hb
  obtain ⟨n,rfl⟩:=Int.eq_ofNat_of_zero_le hr.1
  refine Ev.pos rfl (Ev.eq (spec_ReadVar_loop s n hs (by omega) 5 ((bytesOf s).drop n) [] 0 rfl rfl rfl) ?_)
  rw [if_pos rfl,Int.toNat_natCast,readVarL]
  cases varSeg 5 ((bytesOf s).drop n) with
  | none => rfl
  | some bs =>
   simp only [List.nil_append]
   by_cases hc:val bs≤1000000000∧varL (val bs) = bs
   ·rw [if_pos hc,if_pos hc];simp
   ·rw [if_neg hc,if_neg hc]
theorem impl_ReadVar_loop (s:ByteArray) (a:Nat) (hs:s.size≤1152921504606846976) (ha:a≤s.size):∀ (k:Nat) (rest done:List Int) (i:Nat),i + k = 5→done.length = i→(bytesOf s).drop a = done++rest→(∀ bs,varSeg k rest = some bs→varSeg 5 ((bytesOf s).drop a) = some (done++bs)) →
  Ev (fun K => Zs.l0 K s (a:Int) (val done:Int) (i:Int))
   (match varSeg k rest with | none => (0,0,false) | some bs => if val (done++bs)≤1000000000∧varL (val (done++bs)) = done++bs then ((val (done++bs):Int),((a + (done++bs).length:Nat):Int),true) else (0,0,false)):=by
 intro k
 have hz:=Zk s
 have no:∀ (x7 x8:Int) r,r = (0,0,false)→Ev (fun K => Zs.j1 K s (a:Int) x7 x8 false) r:=by
  rintro x7 x8 r rfl
  refine Ev.step (fun _ => rfl) ?_
  simp only [Zs.j1]
  exact Ev.neg (by simp) (Ev.now _)
 induction k with
 | zero =>
  intro rest done i hi hd hr _
  refine Ev.step (fun _ => rfl) ?_
  simp only [Zs.l0]
  exact Ev.neg (by omega) (no _ _ _ rfl)
 | succ k ih =>
  intro rest done i hi hd hr hseg
  have hl:done.length + rest.length = s.size - a:=by rw [←List.length_append,←hr,List.length_drop,hz]
  cases rest with
  | nil =>
   refine Ev.step (fun _ => rfl) ?_
   simp only [Zs.l0]
   rw [List.length_nil] at hl
   refine Ev.pos (by omega) ?_
   rw [Z9 (by omega) (by omega),decide_eq_false (by omega)]
   exact no _ _ _ rfl
  | cons b t =>
   have e0:wrap64 ((a:Int) + (i:Int)) = ((a + i:Nat):Int):=by rw [Z9 (by omega) (by omega)];omega
   have hbt:bt s ((a + i:Nat):Int) = b:=by
    rw [←rd_bytesOf,rd_nat]
    have e:(bytesOf s).drop (a + i) = b::t:=by rw [←List.drop_drop,hr,List.drop_append_of_le_length (by omega),←hd,List.drop_length,List.nil_append]
    exact (Zg e).2.1 0
   have hb:=bytesOf_range s b (by
    have:b∈(bytesOf s).drop a:=by rw [hr];simp
    exact List.mem_of_mem_drop this)
   rw [List.length_cons] at hl
   have hsc:=scale_bound (show i≤5 by omega)
   have hvd:=val_lt done
   rw [hd] at hvd
   have e1:Int.tmod (wrap64 b) 128 = b % 128:=byte_mod hb.1 hb.2
   have hmul:(b % 128) * ((128 ^ i:Nat):Int) = (((b % 128).toNat * 128 ^ i:Nat):Int):=by
    rw [Int.natCast_mul,Int.toNat_of_nonneg (by omega)]
   have hmb:(b % 128).toNat * 128 ^ i≤127 * 128 ^ i:=Nat.mul_le_mul_right _ (by omega)
   have hpos:0 < 128 ^ i:=Nat.pow_pos (by omega)
   have e7:wrap64 (7 * (i:Int)) = 7 * (i:Int):=Z9 (by omega) (by omega)
   have hshl:shl .i64 (b % 128) (7 * (i:Int)) = (b % 128) * ((128 ^ i:Nat):Int):=by
    have hp:(2:Int) ^ min (7 * (i:Int)).toNat (IntKind.bits .i64) = ((128 ^ i:Nat):Int):=by
     rcases i with _ | _ | _ | _ | _ | i
     ·rfl
     ·rfl
     ·rfl
     ·rfl
     ·rfl
     ·omega
    unfold shl
    rw [hp,i64_w]
    exact Z9 (by omega) (by omega)
   have e2:wrap64 ((val done:Int) + shl .i64 (Int.tmod (wrap64 b) 128) (wrap64 (7 * (i:Int)))) = (val (done++[b]):Int):=by
    rw [e1,e7,hshl,hmul,Z9 (by omega) (by omega),val_append,hd]
    rw [show val [b] = (b % 128).toNat by simp [val],Nat.mul_comm (128 ^ i)]
    omega
   clear hsc hvd hmul hmb hpos hshl e1
   refine Ev.step (fun _ => rfl) ?_
   simp only [Zs.l0,e0]
   refine Ev.pos (by omega) ?_
   rw [decide_eq_true (show ((a + i:Nat):Int) < (s.size:Int) by omega)]
   refine Ev.step (fun _ => rfl) ?_
   simp only [Zs.j1,e0,hbt,e2,Z4 (show i≤9223372036854775806 by omega),Z4 (show a + i≤9223372036854775806 by omega)]
   rw [Z9 (n:=b) (by omega) (by omega)]
   refine Ev.pos trivial (Ev.pos (by omega) (Ev.pos (by omega) (Ev.pos (by rw [e7];omega) (Ev.ite (fun hlt => ?_) (fun hge => ?_)))))
   ·have hsg:=hseg [b] (by rw [varSeg,if_pos hlt])
    have hck:=varSeg_check (fun x hx => bytesOf_range s x (List.mem_of_mem_drop hx)) hsg
    rw [varSeg,if_pos hlt]
    simp only []
    by_cases hbig:val (done++[b])≤1000000000
    ·refine Ev.bind (impl_VarText_nat _ hbig) (Ev.pos rfl ?_)
     simp only [Zv,strOfNums_size]
     have hlen:(done++[b]).length = i + 1:=by simp [hd]
     refine Ev.ite (fun hc => Ev.done ?_) (fun hc => Ev.done ?_)
     ·rw [if_pos ⟨hbig,hck.1 (by omega)⟩,hlen];rfl
     ·rw [if_neg (fun h => hc (by have:=hck.2 h.2;omega))]
    ·refine Ev.bind (Ev.eq (impl_VarText_ev _) (varTextOf_no (show ¬ ((val (done++[b]):Int)≤1000000000) by omega))) ?_
     refine Ev.neg (by simp) (Ev.done ?_)
     rw [if_neg (fun h => hbig h.1)]
   ·have ih:=ih t (done++[b]) (i + 1) (by omega) (by simp [hd]) (by rw [hr];simp) (fun bs hbs => by
     have:=hseg (b::bs) (by rw [varSeg,if_neg hge,hbs];rfl)
     rw [this];simp)
    rw [varSeg,if_neg hge]
    refine Ev.eq ih ?_
    cases varSeg k t with
    | none => rfl
    | some bs => simp only [Option.map_some,List.append_assoc,List.cons_append,List.nil_append]
theorem impl_ReadVar_ev (s:ByteArray) (a:Int) (hs:s.size≤1152921504606846976):Ev (fun k => Zs.f k s a) (Zi s a):=by
 unfold Zs.f Zi
 refine Ev.call (Z0d _ _ _) ?_
 cases hb:inR a 0 s.size
 ·exact Ev.neg (by simp) (Ev.done (by simp))
 ·have hr:=Zu.1 hb
  obtain ⟨n,rfl⟩:=Int.eq_ofNat_of_zero_le hr.1
  refine Ev.pos rfl (Ev.eq (impl_ReadVar_loop s n hs (by omega) 5 ((bytesOf s).drop n) [] 0 rfl rfl rfl (fun bs h => h)) ?_)
  rw [if_pos rfl,Int.toNat_natCast,readVarL]
  cases varSeg 5 ((bytesOf s).drop n) with
  | none => rfl
  | some bs =>
   simp only [List.nil_append]
   by_cases hc:val bs≤1000000000∧varL (val bs) = bs
   ·rw [if_pos hc,if_pos hc];simp
   ·rw [if_neg hc,if_neg hc]
theorem Z05 (s:ByteArray) (a:Int) (bad:Bool) (hs:s.size≤1152921504606846976):Ev (fun k => Z0U.f k s a bad) (Z06 s a bad):=by
 unfold Z0U.f Z06
 refine Ev.bind (spec_ReadVar_ev s a hs) (Ev.ite (fun h => Ev.done (by rw [if_pos h])) (fun h => Ev.ite (fun h' => Ev.done ?_) (fun h' => Ev.done ?_)))
 ·rw [if_neg h,if_pos h']
 ·rw [if_neg h,if_neg h']
theorem ZS (s:ByteArray) (a:Int) (bad:Bool) (hs:s.size≤1152921504606846976):Ev (fun k => ZK.f k s a bad) (Z06 s a bad):=by
 unfold ZK.f Z06
 refine Ev.bind (impl_ReadVar_ev s a hs) (Ev.ite (fun h => Ev.done (by rw [if_pos h])) (fun h => Ev.ite (fun h' => Ev.done ?_) (fun h' => Ev.done ?_)))
 ·rw [if_neg h,if_pos h']
 ·rw [if_neg h,if_neg h']
theorem spec_l05Take_eq (s:ByteArray) (a n:Int) (bad:Bool) (hs:s.size≤1152921504606846976) (h0:0≤a) (h1:a≤s.size) (hn:0≤n) (hn':n≤1152921504606846976):spec_l05Take.f s a bad n = some (curTake s a bad n):=by
 unfold spec_l05Take.f curTake
 by_cases h:bad = true
 ·rw [if_pos h,if_pos h]
 ·rw [if_neg h,if_neg h,Z9 (n:=(s.size:Int) - a) (by omega) (by omega),Z9 (n:=a + n) (by omega) (by omega),show a + n - n = a by omega,Z9 (n:=a) (by omega) (by omega)]
  by_cases hc:n > (s.size:Int) - a
  ·rw [if_pos hc,if_pos hc]
  ·rw [if_neg hc,if_neg hc,if_pos (by omega),if_pos (by omega),if_pos (by omega)]
theorem impl_reader_byte_eq (s:ByteArray) (a:Int) (bad:Bool) (hs:s.size≤1152921504606846976) (h0:0≤a) (h1:a≤s.size):impl_reader_byte.f s a bad = some (curByte s a bad):=by
 unfold impl_reader_byte.f curByte
 by_cases h:bad = true
 ·rw [if_pos h,if_pos h]
 ·rw [if_neg h,if_neg h,Z9 (n:=a + 1) (by omega) (by omega),show a + 1 - 1 = a by omega,Z9 (n:=a) (by omega) (by omega)]
  by_cases hc:a≥(s.size:Int)
  ·rw [if_pos hc,if_pos hc]
  ·have:=bt_range s a
   rw [if_neg hc,if_neg hc,if_pos (by omega),if_pos (by omega),Z9 (n:=bt s a) (by omega) (by omega)]
theorem spec_l05ReadShort_ev (s:ByteArray) (a:Int) (bad:Bool) (hs:s.size≤1152921504606846976) (h0:0≤a) (h1:a≤s.size):Ev (fun k => spec_l05ReadShort.f k s a bad) (curShort s a bad):=by
 unfold spec_l05ReadShort.f curShort
 have hp:=Z0w (s:=s) (a:=a) (bad:=bad) h0 h1
 have hn:=curNum_nonneg s a bad
 refine Ev.bind (Z05 s a bad hs) ?_
 simp only [Z0W]
 exact Ev.call (spec_l05Take_eq s _ _ _ hs hp.1 hp.2 hn.1 (by omega)) (Ev.now _)
theorem impl_ReadShort_ev (s:ByteArray) (a:Int) (hs:s.size≤1152921504606846976):Ev (fun k => impl_ReadShort.f k s a) (readShort s a):=by
 unfold impl_ReadShort.f readShort
 refine Ev.bind (impl_ReadVar_ev s a hs) (Ev.ite (fun h => ?_) (fun h => Ev.done (by rw [if_neg h])))
 have hr:=readVar_true (s:=s) (a:=a) (n:=(Zi s a).1) (b:=(Zi s a).2.1) (by rw [←h])
 rw [if_pos h,Z9 (n:=(s.size:Int) - (Zi s a).2.1) (by omega) (by omega)]
 refine Ev.ite (fun h2 => Ev.done (by rw [if_pos h2])) (fun h2 => Ev.ite (fun h3 => Ev.done (by rw [if_neg h2,if_pos h3])) (fun h3 => ?_))
 rw [if_neg h2,if_neg h3,Z9 (n:=(Zi s a).2.1 + (Zi s a).1) (by omega) (by omega)]
 exact Ev.pos (by omega) (Ev.pos (by omega) (Ev.pos (by omega) (Ev.now _)))
theorem impl_reader_text_ev (s:ByteArray) (a:Int) (bad:Bool) (hs:s.size≤1152921504606846976):Ev (fun k => impl_reader_text.f k s a bad) (curText s a bad):=by
 unfold impl_reader_text.f curText
 refine Ev.bind (impl_ReadShort_ev s a hs) (Ev.ite (fun h => Ev.done (by rw [if_pos h])) (fun h => Ev.ite (fun h' => Ev.done ?_) (fun h' => Ev.done ?_)))
 ·rw [if_neg h,if_pos h']
 ·rw [if_neg h,if_neg h']
theorem impl_reader_done_eq (s:ByteArray) (a:Int) (bad:Bool):impl_reader_done.f s a bad = some (!bad && (a == (s.size:Int)),s,a,bad):=by
 unfold impl_reader_done.f
 cases bad <;> simp
def Cur (l:List Int) (i:Int):Prop:=0≤i∧i≤l.length
def Cu (l s:List Int) (i:Int):Prop:=s = l∧Cur l i
theorem and255 (x:Int):0≤Go.bits .and .i64 x 255∧Go.bits .and .i64 x 255≤255:=by
 have h:(BitVec.ofInt 64 x &&& BitVec.ofInt 64 255).toNat≤255:=by
  rw [BitVec.toNat_and]
  exact Nat.le_trans Nat.and_le_right (by decide)
 have e:Go.bits .and .i64 x 255 = (((BitVec.ofInt 64 x &&& BitVec.ofInt 64 255).toNat:Nat):Int):=by
  show IntKind.i64.wrap (((BitVec.ofInt 64 x &&& BitVec.ofInt 64 255).toNat:Nat):Int) = _
  rw [IntKind.wrap_i64]
  omega
 rw [e];omega
theorem rdOf_mem {α:Type} {z:α} {xs:List α} {b:Int} (h0:0≤b) (h1:b < xs.length):rdOf z xs b∈xs:=by
 obtain ⟨n,rfl⟩:=Int.eq_ofNat_of_zero_le h0
 rw [rdOf,Int.toNat_natCast,List.getD_eq_getElem?_getD,List.getElem?_eq_getElem (by omega)]
 simp
theorem spec_l01New_loop (l:List Int) (hl:l.length≤140737488351232):∀ (m n:Nat) (y:Int),l.length - n≤m→n≤l.length→To (fun k => spec_l01New.l0 k l y (n:Int)) (fun r => Cu l r.1 r.2.1):=by
 have fin:∀ y:Int,Cu l (l,(0:Int),y).1 (l,(0:Int),y).2.1:=fun y => ⟨rfl,Int.le_refl _,by dsimp only;omega⟩
 intro m
 induction m with
 | zero =>
  intro n y h h1
  refine To.step (fun _ => rfl) ?_
  simp only [spec_l01New.l0]
  exact To.neg (by omega) (To.now (fin _))
 | succ m ih =>
  intro n y h h1
  refine To.step (fun _ => rfl) ?_
  simp only [spec_l01New.l0,Z4 (show n≤9223372036854775806 by omega)]
  exact To.ite (fun h2 => To.ite (fun h3 => To.pos (by omega) (ih (n + 1) _ (by omega) (by omega))) (fun _ => To.now (fin _))) (fun _ => To.now (fin _))
theorem spec_l01New_to (l:List Int) (hl:l.length≤140737488351232):To (fun k => spec_l01New.f k l) (fun r => Cu l r.1 r.2.1) :=
 spec_l01New_loop l hl l.length 0 _ (by omega) (by omega)
theorem spec_l01Byte_to {l:List Int} (hl:l.length≤140737488351232) {s:List Int} {i:Int} (y:Int) (h:Cu l s i):To (fun _ => spec_l01Byte.f s i y) (fun r => 0≤r.1∧r.1≤255∧Cu l r.2.1 r.2.2.1):=by
 obtain ⟨rfl,h⟩:=h
 unfold spec_l01Byte.f
 refine To.ite (fun c => To.pos h.1 (To.now ⟨(and255 _).1,(and255 _).2,rfl,?_⟩)) (fun c => To.now ⟨(and255 _).1,(and255 _).2,rfl,h⟩)
 have:=h.1
 simp only [Cur]
 rw [Z9 (by omega) (by omega)]
 omega
theorem spec_l01Below_to {l:List Int} (hl:l.length≤140737488351232) {s:List Int} {i:Int} (y:Int) (h:Cu l s i) (n:Int):To (fun _ => Z0t.f s i y n) (fun r => 0≤r.1∧(0 < n→r.1 < n)∧Cu l r.2.1 r.2.2.1):=by
 unfold Z0t.f
 refine To.ite (fun c => To.now ⟨Int.le_refl _,fun c' => by omega,h⟩) (fun c => To.ite (fun _ => ?_) (fun _ => ?_))
 ·exact To.bind (spec_l01Byte_to hl y h) (fun r p => To.pos (by omega) (To.now ⟨Int.tmod_nonneg _ p.1,fun c => Int.tmod_lt_of_pos _ c,p.2.2⟩))
 ·refine To.bind (spec_l01Byte_to hl y h) (fun r1 p1 => To.bind (spec_l01Byte_to hl _ p1.2.2) (fun r2 p2 => To.bind (spec_l01Byte_to hl _ p2.2.2) (fun r3 p3 => To.bind (spec_l01Byte_to hl _ p3.2.2) (fun r4 p4 => To.pos (by omega) (To.now ⟨Int.tmod_nonneg _ ?_,fun c => Int.tmod_lt_of_pos _ c,p4.2.2⟩)))))
  have q1:=p1.1;have q2:=p2.1;have q3:=p3.1;have q4:=p4.1
  have s1:=p1.2.1;have s2:=p2.2.1;have s3:=p3.2.1;have s4:=p4.2.1
  generalize r1.1 = a at *;generalize r2.1 = b at *;generalize r3.1 = c at *;generalize r4.1 = d at *
  rw [Z9 (n:=a * 16777216) (by omega) (by omega),Z9 (n:=b * 65536) (by omega) (by omega),Z9 (n:=c * 256) (by omega) (by omega),Z9 (n:=a * 16777216 + b * 65536) (by omega) (by omega),Z9 (n:=a * 16777216 + b * 65536 + c * 256) (by omega) (by omega),Z9 (by omega) (by omega)]
  omega
theorem spec_l01Once_to {l:List Int} (hl:l.length≤140737488351232) {s:List Int} {i:Int} (y:Int) (h:Cu l s i) (n:Int):To (fun _ => Z0A.f s i y n) (fun r => Cu l r.2.1 r.2.2.1):=by
 unfold Z0A.f
 exact To.bind (spec_l01Below_to hl y h n) (fun r p => To.now p.2.2)
theorem spec_l01Pick_to {l:List Int} (hl:l.length≤140737488351232) {s:List Int} {i:Int} (y:Int) (h:Cu l s i) (xs:List ByteArray) (hx:0 < xs.length):To (fun _ => spec_l01Pick.f s i y xs) (fun r => r.1∈xs∧Cu l r.2.1 r.2.2.1):=by
 unfold spec_l01Pick.f
 exact To.bind (spec_l01Below_to hl y h _) (fun r p => To.pos p.1 (To.pos (p.2.1 (by omega)) (To.now ⟨rdOf_mem p.1 (p.2.1 (by omega)),p.2.2⟩)))
theorem spec_l01Long_loop (a v:Int) (h1:a≤1000000):∀ (m n:Nat) (xs:List Int),(xs.length:Int) = a→a.toNat - n≤m→n≤a.toNat→To (fun k => Z14.l0 k a v xs (n:Int)) (fun r => (r.size:Int) = a):=by
 intro m
 induction m with
 | zero =>
  intro n xs hx h2 h3
  refine To.step (fun _ => rfl) ?_
  simp only [Z14.l0]
  exact To.neg (by omega) (To.now (by rw [strOfNums_size];exact hx))
 | succ m ih =>
  intro n xs hx h2 h3
  refine To.step (fun _ => rfl) ?_
  simp only [Z14.l0,Z4 (show n≤9223372036854775806 by omega)]
  exact To.ite (fun c => To.pos (by omega) (To.pos (by omega) (ih (n + 1) _ (by rw [List.length_set];exact hx) (by omega) (by omega)))) (fun _ => To.now (by rw [strOfNums_size];exact hx))
theorem spec_l01Long_to (a v:Int) (h0:0≤a) (h1:a≤1000000):To (fun k => Z14.f k a v) (fun r => (r.size:Int) = a):=by
 unfold Z14.f
 exact To.pos h0 (To.pos (by omega) (spec_l01Long_loop a v h1 a.toNat 0 _ (by rw [List.length_replicate];omega) (by omega) (by omega)))
theorem rise_app (lo hi:Int):∀ (l:List Int) (p:Option Int) (x:Int),rise lo hi p l = true→(∀ y∈l,y < x)→(∀ q,p = some q→q < x)→lo≤x→x≤hi→rise lo hi p (l++[x]) = true
 | [],none,x,_,_,_,h1,h2 => by simp only [List.nil_append,rise];rw [Zu.2 ⟨h1,h2⟩];rfl
 | [],some q,x,_,_,h,h1,h2 => by simp only [List.nil_append,rise];rw [Zu.2 ⟨h1,h2⟩,decide_eq_true (h q rfl)];rfl
 | y::t,none,x,hr,hl,_,h1,h2 => by
  simp only [rise,Bool.and_eq_true] at hr
  rw [List.cons_append,rise,hr.1,rise_app lo hi t (some y) x hr.2 (fun z hz => hl z (List.mem_cons_of_mem _ hz)) (fun q e => by injection e with e;rw [←e];exact hl y List.mem_cons_self) h1 h2];rfl
 | y::t,some p,x,hr,hl,_,h1,h2 => by
  simp only [rise,Bool.and_eq_true] at hr
  rw [List.cons_append,rise,hr.1,hr.2.1,rise_app lo hi t (some y) x hr.2.2 (fun z hz => hl z (List.mem_cons_of_mem _ hz)) (fun q e => by injection e with e;rw [←e];exact hl y List.mem_cons_self) h1 h2];rfl
theorem spec_l07Conf_loop {l:List Int} (hl:l.length≤140737488351232):∀ (m n:Nat) (acc s:List Int) (i y:Int),5 - n≤m→1≤n→n≤5→acc.length < n→rise 1 4 none acc = true→(∀ x∈acc,x < (n:Int))→Cu l s i →
  To (fun k => Z11.l0 k acc (n:Int) s i y) (fun r => confOk r.1 = true∧Cu l r.2.1 r.2.2.1):=by
 have fin:∀ acc:List Int,acc.length < 5→rise 1 4 none acc = true→¬ (acc.length:Int) = 0→confOk acc = true:=fun acc h hr hn => by
  rw [confOk,hr,Zu.2 (by omega)];rfl
 have fin0:∀ acc:List Int,(acc.length:Int) = 0→confOk (acc++[1]) = true:=fun acc h => by
  obtain rfl:acc = []:=List.length_eq_zero_iff.1 (by omega)
  rfl
 intro m
 induction m with
 | zero =>
  intro n acc s i y h1 h2 h3 h4 hr hx h
  refine To.step (fun _ => rfl) ?_
  simp only [Z11.l0]
  exact To.neg (by omega) (To.ite (fun c => To.pos (by omega) (To.now ⟨fin0 acc c,h⟩)) (fun c => To.now ⟨fin acc (by omega) hr c,h⟩))
 | succ m ih =>
  intro n acc s i y h1 h2 h3 h4 hr hx h
  refine To.step (fun _ => rfl) ?_
  simp only [Z11.l0,Z4 (show n≤9223372036854775806 by omega)]
  refine To.ite (fun c => To.bind (spec_l01Once_to hl y h 2) (fun r p => To.ite (fun _ => To.pos (by omega) ?_) (fun _ => ?_))) (fun c => To.ite (fun c => To.pos (by omega) (To.now ⟨fin0 acc c,h⟩)) (fun c => To.now ⟨fin acc (by omega) hr c,h⟩))
  ·refine ih (n + 1) _ _ _ _ (by omega) (by omega) (by omega) (by simp only [List.length_append,List.length_singleton];omega) (rise_app 1 4 acc none n hr hx (fun q e => by cases e) (by omega) (by omega)) (fun x hx' => ?_) p
   rcases List.mem_append.1 hx' with hx' | hx'
   ·have:=hx x hx';omega
   ·have:=List.mem_singleton.1 hx';omega
  ·exact ih (n + 1) _ _ _ _ (by omega) (by omega) (by omega) (by omega) hr (fun x hx' => by have:=hx x hx';omega) p
theorem spec_l07Conf_to {l:List Int} (hl:l.length≤140737488351232) {s:List Int} {i:Int} (y:Int) (h:Cu l s i):To (fun k => Z11.f k s i y) (fun r => confOk r.1 = true∧Cu l r.2.1 r.2.2.1) :=
 spec_l07Conf_loop hl 4 1 [] s i y (by omega) (by omega) (by omega) (by simp) rfl (fun x hx => by cases hx) h
theorem laws_sameInts_loop (xs:List Int) (hx:xs.length≤1048576):∀ (rest:List Int) (n:Nat),xs.drop n = rest→Ev (fun k => Z0D.l0 k xs xs (n:Int)) true:=by
 intro rest
 induction rest with
 | nil =>
  intro n h
  have:=ZA h
  refine Ev.step (fun _ => rfl) ?_
  simp only [Z0D.l0]
  exact Ev.neg (by omega) (Ev.now _)
 | cons x t ih =>
  intro n h
  obtain ⟨h1,-,h3⟩:=Zg h
  refine Ev.step (fun _ => rfl) ?_
  simp only [Z0D.l0,Z4 (show n≤9223372036854775806 by omega)]
  exact Ev.pos (by omega) (Ev.pos (by omega) (Ev.pos (by omega) (Ev.pos trivial (ih (n + 1) h3))))
theorem laws_sameInts_refl (xs:List Int) (hx:xs.length≤1048576):Ev (fun k => Z0D.f k xs xs) true:=by
 unfold Z0D.f
 exact Ev.pos rfl (laws_sameInts_loop xs hx xs 0 rfl)
theorem spec_l05Key_eq (s:ByteArray):spec_l05Key.f s = some (inR s.size 1 10):=by
 unfold spec_l05Key.f;rw [Z0u];rfl
theorem impl_keyOk_eq (s:ByteArray):impl_keyOk.f s = some (inR s.size 1 10):=by
 unfold impl_keyOk.f;rw [Z0d];rfl
def spotOk (x:S145):Bool:=inR x.f0.size 1 10 && (inR x.f1 0 999 && (inR x.f2 0 20000 && inR x.f3 0 40))
def keyRise:Option ByteArray→ByteArray→Bool
 | none,_ => true
 | some q,s => Op.bytesLess q.toList s.toList
def dirIn:Option ByteArray→List S145→Bool
 | _,[] => true
 | p,x::t => spotOk x && (keyRise p x.f0 && dirIn (some x.f0) t)
def dirOk (l:List S145):Bool:=decide (l.length≤60) && dirIn none l
def keyOf (xs:List S145):Nat→Option ByteArray
 | 0 => none
 | n + 1 => some (Z8 xs (n:Int)).f0
theorem dirIn_mem:∀ {l:List S145} {p:Option ByteArray},dirIn p l = true→∀ x∈l,spotOk x = true
 | [],_,_,x,hx => by cases hx
 | y::t,p,h,x,hx => by
  rw [dirIn,Bool.and_eq_true,Bool.and_eq_true] at h
  rcases List.mem_cons.1 hx with rfl | hx
  ·exact h.1
  ·exact dirIn_mem h.2.2 x hx
theorem spec_DirOk_loop (l:List S145) (hl:l.length≤3000000):∀ (rest:List S145) (n:Nat),l.drop n = rest→Ev (fun k => Z19.l0 k l (n:Int)) (dirIn (keyOf l n) rest):=by
 intro rest
 induction rest with
 | nil =>
  intro n h
  have:=ZA h
  refine Ev.step (fun _ => rfl) ?_
  simp only [Z19.l0]
  exact Ev.neg (by omega) (Ev.done (by simp [dirIn]))
 | cons x t ih =>
  intro n h
  obtain ⟨h1,-,h3⟩:=Zg h
  have hk:keyOf l (n + 1) = some x.f0:=by rw [keyOf,rdT145_drop h]
  have ih:=ih (n + 1) h3
  rw [hk] at ih
  have tail:∀ r,r = (inR x.f1 0 999 && (inR x.f2 0 20000 && (inR x.f3 0 40 && dirIn (some x.f0) t)))→Ev (fun k => (ZH.f x.f1 0 999).bind fun t1 => (if t1 = true then ((ZH.f x.f2 0 20000).bind fun t2 => (if t2 = true then ((ZH.f x.f3 0 40).bind fun t3 => (if t3 = true then (Z19.l0 k l ((n + 1:Nat):Int)) else (some false))) else (some false))) else (some false))) r:=by
   rintro r rfl
   refine Ev.call (Z0u _ _ _) ?_
   cases inR x.f1 0 999
   ·exact Ev.neg (by simp) (Ev.done (by simp))
   refine Ev.pos rfl (Ev.call (Z0u _ _ _) ?_)
   cases inR x.f2 0 20000
   ·exact Ev.neg (by simp) (Ev.done (by simp))
   refine Ev.pos rfl (Ev.call (Z0u _ _ _) ?_)
   cases inR x.f3 0 40
   ·exact Ev.neg (by simp) (Ev.done (by simp))
   exact Ev.pos rfl (Ev.eq ih (by simp))
  refine Ev.step (fun _ => rfl) ?_
  simp only [Z19.l0,rdT145_drop h,Z4 (show n≤9223372036854775806 by omega)]
  refine Ev.pos (by omega) (Ev.pos (by omega) (Ev.call (spec_l05Key_eq _) ?_))
  rw [dirIn,spotOk]
  cases h0:inR x.f0.size 1 10
  ·exact Ev.neg (by simp) (Ev.done (by simp))
  refine Ev.pos rfl ?_
  cases n with
  | zero => exact Ev.neg (by omega) (tail _ (by simp [keyOf,keyRise,Bool.and_assoc]))
  | succ m =>
   simp only [wrap64_pred (show m≤9223372036854775806 by omega)]
   refine Ev.pos (by omega) (Ev.pos (by omega) (Ev.pos (by omega) (Ev.ite (fun hc => tail _ ?_) (fun hc => Ev.done ?_))))
   ·simp only [keyOf,keyRise,hc];simp [Bool.and_assoc]
   ·simp only [keyOf,keyRise,Bool.eq_false_iff.2 hc];simp
theorem spec_DirOk_ev (l:List S145) (hl:l.length≤3000000):Ev (fun k => Z19.f k l) (dirOk l):=by
 unfold Z19.f dirOk
 refine Ev.ite (fun hc => Ev.done ?_) (fun hc => Ev.eq (spec_DirOk_loop l hl l 0 rfl) ?_)
 ·rw [decide_eq_false (show ¬ l.length≤60 by omega)];rfl
 ·rw [decide_eq_true (show l.length≤60 by omega)];rfl
theorem impl_DirOk_loop (l:List S145) (hl:l.length≤3000000):∀ (rest:List S145) (n:Nat),l.drop n = rest→Ev (fun k => Z1b.l0 k l l (l.length:Int) (n:Int)) (decide (l.length≤60) && dirIn (keyOf l n) rest):=by
 intro rest
 induction rest with
 | nil =>
  intro n h
  have:=ZA h
  refine Ev.step (fun _ => rfl) ?_
  simp only [Z1b.l0]
  refine Ev.neg (by omega) (Ev.done ?_)
  rw [dirIn,Bool.and_true]
  exact decide_eq_decide.2 (by omega)
 | cons x t ih =>
  intro n h
  obtain ⟨h1,-,h3⟩:=Zg h
  have hk:keyOf l (n + 1) = some x.f0:=by rw [keyOf,rdT145_drop h]
  have ih:=ih (n + 1) h3
  rw [hk] at ih
  refine Ev.step (fun _ => rfl) ?_
  simp only [Z1b.l0,rdT145_drop h,Z4 (show n≤9223372036854775806 by omega)]
  refine Ev.pos (by omega) (Ev.pos (by omega) (Ev.pos (by omega) (Ev.call (impl_keyOk_eq _) ?_)))
  rw [dirIn,spotOk]
  cases h0:inR x.f0.size 1 10
  ·exact Ev.neg (by simp) (Ev.done (by simp))
  refine Ev.pos rfl (Ev.call (Z0d _ _ _) ?_)
  cases inR x.f1 0 999
  ·exact Ev.neg (by simp) (Ev.done (by simp))
  refine Ev.pos rfl (Ev.call (Z0d _ _ _) ?_)
  cases inR x.f2 0 20000
  ·exact Ev.neg (by simp) (Ev.done (by simp))
  refine Ev.pos rfl (Ev.call (Z0d _ _ _) ?_)
  cases inR x.f3 0 40
  ·exact Ev.neg (by simp) (Ev.done (by simp))
  refine Ev.pos rfl ?_
  cases n with
  | zero => exact Ev.neg (by omega) (Ev.eq ih (by simp [keyOf,keyRise]))
  | succ m =>
   simp only [wrap64_pred (show m≤9223372036854775806 by omega)]
   refine Ev.pos (by omega) (Ev.pos (by omega) (Ev.pos (by omega) (Ev.ite (fun hc => Ev.eq ih ?_) (fun hc => Ev.done ?_))))
   ·simp only [keyOf,keyRise,hc];simp
   ·simp only [keyOf,keyRise,Bool.eq_false_iff.2 hc];simp
theorem impl_DirOk_ev (l:List S145) (hl:l.length≤3000000):Ev (fun k => Z1b.f k l) (dirOk l) :=
 impl_DirOk_loop l hl l 0 rfl
def sealT (s:ByteArray):ByteArray×Bool:=if s.size > 20000 then (⟨#[]⟩,false) else (s++four (sumOf s),true)
theorem spec_Sealed_ev (s:ByteArray) (hs:s.size≤1152921504606846976):Ev (fun k => spec_Sealed.f k s) (sealT s):=by
 unfold spec_Sealed.f sealT
 have h4:=four_size (sumOf s)
 refine Ev.ite (fun hc => Ev.done ?_) (fun hc => Ev.bind (spec_SumOf_ev s (by omega)) (Ev.call (spec_l02Four_eq _) (Ev.pos (by omega) (Ev.done ?_))))
 ·rw [if_pos (show s.size > 20000 by omega)]
 ·rw [if_neg (show ¬ s.size > 20000 by omega)]
theorem impl_Sealed_ev (s:ByteArray) (hs:s.size≤1152921504606846976):Ev (fun k => impl_Sealed.f k s) (sealT s):=by
 unfold impl_Sealed.f sealT
 have h4:=four_size (sumOf s)
 refine Ev.ite (fun hc => Ev.done ?_) (fun hc => Ev.bind (impl_SumOf_ev s (by omega)) (Ev.call rfl ?_))
 ·rw [if_pos (show s.size > 20000 by omega)]
 ·rw [if_neg (show ¬ s.size > 20000 by omega)]
  rw [four] at h4
  exact Ev.pos (by omega) (Ev.done rfl)
def Z0F (s:ByteArray) (a:Int):Option (ByteArray×Int) :=
 if (Zi s a).2.2 = false then none else
 if (Zi s a).1 > (s.size:Int) - (Zi s a).2.1 - 4 then none else
 if (frame (s.extract ((Zi s a).2.1 + 4).toNat ((Zi s a).2.1 + 4 + (Zi s a).1).toNat)).2 = true∧(frame (s.extract ((Zi s a).2.1 + 4).toNat ((Zi s a).2.1 + 4 + (Zi s a).1).toNat)).1 = s.extract a.toNat ((Zi s a).2.1 + 4 + (Zi s a).1).toNat
 then some (s.extract ((Zi s a).2.1 + 4).toNat ((Zi s a).2.1 + 4 + (Zi s a).1).toNat,(Zi s a).2.1 + 4 + (Zi s a).1) else none
def unfr (s:ByteArray):Nat→List ByteArray→Int→List ByteArray×Int
 | 0,acc,a => (acc,a)
 | m + 1,acc,a => match Z0F s a with
  | none => (acc,a)
  | some (c,b) => unfr s m (acc++[c]) b
def ZY (s:ByteArray):List ByteArray×Int:=if s.size > 20000 then ([],0) else unfr s (s.size + 1) [] 0
theorem unfStep_some {s:ByteArray} {a b:Int} {c:ByteArray} (h:Z0F s a = some (c,b)):0≤a∧a < b∧b≤s.size∧c.size≤9000:=by
 unfold Z0F at h
 split at h
 ·cases h
 split at h
 ·cases h
 split at h
 ·rename_i h1 h2 h3
  simp only [Option.some.injEq,Prod.mk.injEq] at h
  obtain ⟨rfl,rfl⟩:=h
  have hr:Zi s a = ((Zi s a).1,(Zi s a).2.1,true):=by
   have:(Zi s a).2.2 = true:=by cases hb:(Zi s a).2.2 <;> simp_all
   rw [←this]
  obtain ⟨p1,p2,p3,p4,p5,p6,-,-⟩:=readVar_true hr
  refine ⟨p1,by omega,by omega,?_⟩
  have h4:=h3.1
  unfold frame at h4
  split at h4
  ·rename_i h5
   have:=Zu.1 h5
   omega
  ·simp at h4
 ·cases h
theorem unfr_bounds (s:ByteArray):∀ (m:Nat) (acc:List ByteArray) (a:Int),0≤a→a≤s.size→(acc.length:Int)≤a→(∀ c∈acc,c.size≤9000) →
  (0≤(unfr s m acc a).2∧(unfr s m acc a).2≤s.size)∧((unfr s m acc a).1.length:Int)≤(unfr s m acc a).2∧∀ c∈(unfr s m acc a).1,c.size≤9000
 | 0,acc,a,h0,h1,h2,h3 => ⟨⟨h0,h1⟩,h2,h3⟩
 | m + 1,acc,a,h0,h1,h2,h3 => by
  rw [unfr]
  cases hs:Z0F s a with
  | none => exact ⟨⟨h0,h1⟩,h2,h3⟩
  | some x =>
   obtain ⟨c,b⟩:=x
   obtain ⟨p1,p2,p3,p4⟩:=unfStep_some hs
   refine unfr_bounds s m (acc++[c]) b (by omega) p3 (by simp only [List.length_append,List.length_singleton];omega) ?_
   intro d hd
   rcases List.mem_append.1 hd with hd | hd
   ·exact h3 d hd
   ·rw [List.mem_singleton] at hd;rw [hd];exact p4
theorem unframe_bounds (s:ByteArray):(ZY s).1.length≤20000∧∀ c∈(ZY s).1,c.size≤9000:=by
 unfold ZY
 split
 ·exact ⟨by simp,fun c hc => by cases hc⟩
 ·obtain ⟨h1,h2,h3⟩:=unfr_bounds s (s.size + 1) [] 0 (by omega) (by omega) (by simp) (fun c hc => by cases hc)
  exact ⟨by omega,h3⟩
theorem readVar_res {s:ByteArray} {a:Int} (h:(Zi s a).2.2 = true):Zi s a = ((Zi s a).1,(Zi s a).2.1,true):=by
 rw [←h]
theorem spec_Unframe_loop (s:ByteArray) (hs:s.size≤20000):∀ (m:Nat) (acc:List ByteArray) (a:Int),0≤a→a≤s.size→(acc.length:Int)≤a→(s.size:Int) - a < m→Ev (fun k => ZN.l0 k s acc a) (unfr s m acc a):=by
 intro m
 induction m with
 | zero => intro acc a h0 h1 h2 h3;omega
 | succ m ih =>
  intro acc a h0 h1 h2 h3
  refine Ev.step (fun _ => rfl) ?_
  simp only [ZN.l0]
  rw [unfr]
  refine Ev.ite (fun hc => Ev.bind (spec_ReadVar_ev s a (by omega)) ?_) (fun hc => Ev.done ?_)
  ·cases hb:(Zi s a).2.2
   ·have e:Z0F s a = none:=by rw [Z0F,if_pos hb]
    refine Ev.neg (by simp) (Ev.step (fun _ => rfl) ?_)
    simp only [ZN.j1,e]
    exact Ev.pos trivial (Ev.now _)
   ·obtain ⟨p1,p2,p3,p4,p5,p6,-,-⟩:=readVar_true (readVar_res hb)
    have es:wrap64 (wrap64 ((s.size:Int) - (Zi s a).2.1) - 4) = s.size - (Zi s a).2.1 - 4:=by
     rw [Z9 (n:=(s.size:Int) - (Zi s a).2.1) (by omega) (by omega),Z9 (by omega) (by omega)]
    have e4:wrap64 ((Zi s a).2.1 + 4) = (Zi s a).2.1 + 4:=Z9 (by omega) (by omega)
    have eb:wrap64 ((Zi s a).2.1 + 4 + (Zi s a).1) = (Zi s a).2.1 + 4 + (Zi s a).1:=Z9 (by omega) (by omega)
    refine Ev.pos rfl (Ev.step (fun _ => rfl) ?_)
    simp only [ZN.j1,es,e4,eb]
    by_cases h4:(Zi s a).1 > (s.size:Int) - (Zi s a).2.1 - 4
    ·have e:Z0F s a = none:=by rw [Z0F,if_neg (by simp [hb]),if_pos h4]
     rw [e]
     exact Ev.pos (decide_eq_true h4) (Ev.now _)
    ·refine Ev.neg (by simp;omega) (Ev.pos (by omega) (Ev.pos (by omega) (Ev.pos (by omega) (Ev.bind (spec_Frame_ev _ (by rw [ByteArray.size_extract];omega)) (Ev.ite (fun h5 => Ev.pos (by omega) (Ev.pos (by omega) (Ev.ite (fun h6 => Ev.pos (by omega) ?_) (fun h6 => ?_)))) (fun h5 => ?_))))))
     ·have e:Z0F s a = some (s.extract ((Zi s a).2.1 + 4).toNat ((Zi s a).2.1 + 4 + (Zi s a).1).toNat,(Zi s a).2.1 + 4 + (Zi s a).1):=by
       rw [Z0F,if_neg (by simp [hb]),if_neg h4,if_pos ⟨h5,toList_inj.1 h6⟩]
      rw [e]
      exact ih _ _ (by omega) (by omega) (by simp only [List.length_append,List.length_singleton];omega) (by omega)
     ·have e:Z0F s a = none:=by rw [Z0F,if_neg (by simp [hb]),if_neg h4,if_neg (fun e => h6 (toList_inj.2 e.2))]
      rw [e];exact Ev.now _
     ·have e:Z0F s a = none:=by rw [Z0F,if_neg (by simp [hb]),if_neg h4,if_neg (fun e => h5 e.1)]
      rw [e];exact Ev.now _
  ·have e:Z0F s a = none:=by
    have hf:(Zi s a).2.2 = false:=by
     cases hb:(Zi s a).2.2
     ·rfl
     ·have:=readVar_true (readVar_res hb);omega
    rw [Z0F,if_pos hf]
   rw [e]
theorem spec_Unframe_ev (s:ByteArray):Ev (fun k => ZN.f k s) (ZY s):=by
 unfold ZN.f ZY
 refine Ev.call rfl (Ev.ite (fun hc => Ev.done ?_) (fun hc => ?_))
 ·rw [if_pos (show s.size > 20000 by omega)]
 ·rw [if_neg (show ¬ s.size > 20000 by omega)]
  exact spec_Unframe_loop s (by omega) _ [] 0 (by omega) (by omega) (by simp) (by omega)
theorem impl_flag_eq (b:Bool):impl_flag.f b = some (flagT b):=by cases b <;> rfl
def unsealT (s:ByteArray):ByteArray×Bool:=if 4≤s.size∧s.size≤20004∧s.extract (s.size - 4) s.size = four (sumOf (s.extract 0 (s.size - 4))) then (s.extract 0 (s.size - 4),true) else (⟨#[]⟩,false)
theorem split4 {s:ByteArray} (h:4≤s.size):bytesOf s = bytesOf (s.extract 0 (s.size - 4))++bytesOf (s.extract (s.size - 4) s.size):=by
 rw [bytesOf_extract,bytesOf_dropTo,List.drop_zero,List.take_append_drop]
theorem unseal_seal {t s:ByteArray} (h:sealT t = (s,true)):unsealT s = (t,true):=by
 unfold sealT at h
 by_cases hc:t.size > 20000
 ·rw [if_pos hc] at h;simp at h
 ·rw [if_neg hc] at h
  simp only [Prod.mk.injEq,and_true] at h
  have h4:=four_size (sumOf t)
  have hs:s.size = t.size + 4:=by rw [←h,size_append,h4]
  have hb:bytesOf s = bytesOf t++bytesOf (four (sumOf t)):=by rw [←h,Z0z]
  have hl:(bytesOf t).length = s.size - 4:=by rw [Zk];omega
  have e1:s.extract 0 (s.size - 4) = t:=bytesOf_inj (by rw [bytesOf_extract,List.drop_zero,hb,←hl,List.take_left])
  have e2:s.extract (s.size - 4) s.size = four (sumOf t):=bytesOf_inj (by rw [bytesOf_dropTo,hb,←hl,List.drop_left])
  unfold unsealT
  rw [e1,e2,if_pos ⟨by omega,by omega,rfl⟩]
theorem seal_unseal {t s:ByteArray} (h:unsealT s = (t,true)):sealT t = (s,true)∧t.size≤20000:=by
 unfold unsealT at h
 split at h
 ·rename_i hc
  simp only [Prod.mk.injEq,and_true] at h
  subst h
  have hz:(s.extract 0 (s.size - 4)).size = s.size - 4:=by have:=extract_size (s:=s) (a:=0) (b:=((s.size - 4:Nat):Int)) (by omega) (by omega) (by omega);simp only [Int.toNat_natCast] at this;have e:(0:Int).toNat = 0:=rfl;rw [e] at this;omega
  unfold sealT
  refine ⟨?_,by omega⟩
  rw [if_neg (by omega),←hc.2.2]
  congr 1
  exact bytesOf_inj (by rw [Z0z,←split4 hc.1])
 ·simp at h
theorem spec_Unsealed_ev (s:ByteArray) (hs:s.size≤1048576):Ev (fun k => spec_Unsealed.f k s) (unsealT s):=by
 unfold spec_Unsealed.f unsealT
 rw [Z9 (by omega) (by omega)]
 refine Ev.ite (fun hc => Ev.done ?_) (fun hc => Ev.ite (fun hd => Ev.done ?_) (fun hd => Ev.pos (by omega) (Ev.pos (by omega) ?_)))
 ·rw [if_neg (by omega)]
 ·rw [if_neg (by omega)]
 have e:((s.size:Int) - 4).toNat = s.size - 4:=by omega
 rw [e]
 refine Ev.bind (spec_SumOf_ev _ (by have:=extract_size (s:=s) (a:=0) (b:=((s.size - 4:Nat):Int)) (by omega) (by omega) (by omega);simp only [Int.toNat_natCast] at this;have e:(0:Int).toNat = 0:=rfl;rw [e] at this;omega)) (Ev.call (spec_l02Four_eq _) (Ev.ite (fun h => Ev.done ?_) (fun h => Ev.done ?_)))
 ·rw [if_pos ⟨by omega,by omega,toList_inj.1 h⟩]
 ·rw [if_neg (fun h' => h (toList_inj.2 h'.2.2))]
theorem impl_Unsealed_ev (s:ByteArray) (hs:s.size≤1048576):Ev (fun k => impl_Unsealed.f k s) (unsealT s):=by
 unfold impl_Unsealed.f
 refine Ev.ite (fun hc => Ev.done ?_) (fun hc => ?_)
 ·unfold unsealT;rw [if_neg (by omega)]
 rw [Z9 (by omega) (by omega)]
 have e:((s.size:Int) - 4).toNat = s.size - 4:=by omega
 have hz:(s.extract 0 (s.size - 4)).size = s.size - 4:=by have:=extract_size (s:=s) (a:=0) (b:=((s.size - 4:Nat):Int)) (by omega) (by omega) (by omega);simp only [Int.toNat_natCast] at this;have e:(0:Int).toNat = 0:=rfl;rw [e] at this;omega
 rw [e]
 refine Ev.pos (by omega) (Ev.pos (by omega) (Ev.bind (impl_Sealed_ev _ (by omega)) (Ev.ite (fun h => Ev.ite (fun h' => Ev.done ?_) (fun h' => Ev.done ?_)) (fun h => Ev.done ?_))))
 ·exact (unseal_seal (show sealT (s.extract 0 (s.size - 4)) = (s,true) from Prod.ext (toList_inj.1 h') h)).symm
 ·cases hu:unsealT s with
  | mk t b =>
   cases b
   ·unfold unsealT at hu;split at hu
    ·simp at hu
    ·exact hu
   ·exfalso
    have hst:=(seal_unseal hu).1
    have e2:t = s.extract 0 (s.size - 4):=by unfold unsealT at hu;split at hu <;> simp_all
    rw [←e2,hst] at h'
    exact h' rfl
 ·cases hu:unsealT s with
  | mk t b =>
   cases b
   ·unfold unsealT at hu;split at hu
    ·simp at hu
    ·exact hu
   ·exfalso
    have hst:=(seal_unseal hu).1
    have e2:t = s.extract 0 (s.size - 4):=by unfold unsealT at hu;split at hu <;> simp_all
    rw [←e2,hst] at h
    exact h rfl
def keyUp:Option ByteArray→ByteArray→Bool
 | none,_ => true
 | some q,s => Op.bytesLess q.toList s.toList
def batchIn:Option ByteArray→List S162→Bool
 | _,[] => true
 | p,x::t => inR x.f0.size 1 10 && (keyUp p x.f0 && (decide (x.f1.size≤40) && ((!x.f2 || emp x.f1) && batchIn (some x.f0) t)))
def batchOk (st:Int) (l:List S162):Bool:=inR st 0 100000 && (decide (l.length≤60) && batchIn none l)
def keyOfC (xs:List S162):Nat→Option ByteArray
 | 0 => none
 | n + 1 => some (ZP xs (n:Int)).f0
theorem batchIn_mem:∀ {l:List S162} {p:Option ByteArray},batchIn p l = true→∀ x∈l,(1≤x.f0.size∧x.f0.size≤10)∧x.f1.size≤40
 | [],_,_,x,hx => by cases hx
 | y::t,p,h,x,hx => by
  rw [batchIn] at h
  simp only [Bool.and_eq_true] at h
  rcases List.mem_cons.1 hx with rfl | hx
  ·have:=Zu.1 h.1
   exact ⟨by omega,of_decide_eq_true h.2.2.1⟩
  ·exact batchIn_mem h.2.2.2.2 x hx
theorem Z0Q {st:Int} {l:List S162} (h:batchOk st l = true):(0≤st∧st≤100000)∧l.length≤60∧∀ x∈l,(1≤x.f0.size∧x.f0.size≤10)∧x.f1.size≤40:=by
 unfold batchOk at h
 simp only [Bool.and_eq_true] at h
 exact ⟨Zu.1 h.1,of_decide_eq_true h.2.1,batchIn_mem h.2.2⟩
theorem spec_BatchOk_loop (st:Int) (l:List S162) (hl:l.length≤1048576):∀ (rest:List S162) (n:Nat),l.drop n = rest→Ev (fun k => Zp.l0 k (n:Int) st l) (batchIn (keyOfC l n) rest):=by
 intro rest
 induction rest with
 | nil =>
  intro n h
  have:=ZA h
  refine Ev.step (fun _ => rfl) ?_
  simp only [Zp.l0]
  exact Ev.neg (by omega) (Ev.done (by simp [batchIn]))
 | cons x t ih =>
  intro n h
  obtain ⟨h1,-,h3⟩:=Zg h
  have hk:keyOfC l (n + 1) = some x.f0:=by rw [keyOfC,rdT162_drop h]
  have ih:=ih (n + 1) h3
  rw [hk] at ih
  have tail:∀ r,r = (decide (x.f1.size≤40) && ((!x.f2 || emp x.f1) && batchIn (some x.f0) t))→Ev (fun k => if ((x.f1).size:Int) > 40 then some false else (if x.f2 = true then (if x.f1.toList = ([]:List UInt8) then (Zp.l0 k ((n + 1:Nat):Int) st l) else some false) else (Zp.l0 k ((n + 1:Nat):Int) st l))) r:=by
   rintro r rfl
   refine Ev.ite (fun c => Ev.done (by rw [decide_eq_false (show ¬ x.f1.size≤40 by omega)];rfl)) (fun c => ?_)
   rw [decide_eq_true (show x.f1.size≤40 by omega),Bool.true_and]
   refine Ev.ite (fun c2 => Ev.ite (fun c3 => Ev.eq ih ?_) (fun c3 => Ev.done ?_)) (fun c2 => Ev.eq ih ?_)
   ·rw [c2,(emp_iff _).1 c3];simp
   ·rw [c2,show emp x.f1 = false by simpa using fun e => c3 ((emp_iff _).2 e)];simp
   ·rw [show x.f2 = false by simpa using c2];simp
  refine Ev.step (fun _ => rfl) ?_
  simp only [Zp.l0,rdT162_drop h,Z4 (show n≤9223372036854775806 by omega)]
  refine Ev.pos (by omega) (Ev.pos (by omega) (Ev.call (spec_l05Key_eq _) ?_))
  rw [batchIn]
  cases h0:inR x.f0.size 1 10
  ·exact Ev.neg (by simp) (Ev.done (by simp))
  refine Ev.pos rfl ?_
  cases n with
  | zero => exact Ev.neg (by omega) (tail _ (by simp [keyOfC,keyUp]))
  | succ m =>
   simp only [wrap64_pred (show m≤9223372036854775806 by omega)]
   refine Ev.pos (by omega) (Ev.pos (by omega) (Ev.pos (by omega) (Ev.ite (fun hc => tail _ ?_) (fun hc => Ev.done ?_))))
   ·simp only [keyOfC,keyUp,hc];simp
   ·simp only [keyOfC,keyUp,Bool.eq_false_iff.2 hc];simp
theorem spec_BatchOk_ev (st:Int) (l:List S162) (hl:l.length≤1048576):Ev (fun k => Zp.f k st l) (batchOk st l):=by
 unfold Zp.f batchOk
 refine Ev.call (Z0u _ _ _) ?_
 cases inR st 0 100000
 ·refine Ev.neg (by simp) (Ev.step (fun _ => rfl) ?_)
  simp only [Zp.j0]
  exact Ev.pos trivial (Ev.done (by simp))
 ·refine Ev.pos rfl (Ev.step (fun _ => rfl) ?_)
  simp only [Zp.j0]
  refine Ev.ite (fun c => Ev.done ?_) (fun c => Ev.eq (spec_BatchOk_loop st l hl l 0 rfl) ?_)
  ·have:=of_decide_eq_true c
   rw [decide_eq_false (show ¬ l.length≤60 by omega)];rfl
  ·have:=of_decide_eq_false (by simpa using c:decide ((l.length:Int) > 60) = false)
   rw [decide_eq_true (show l.length≤60 by omega)];rfl
def batchRows:ByteArray→List S162→ByteArray
 | s,[] => s
 | s,x::t => batchRows (s++ZJ x.f0++flagT x.f2++ZJ x.f1) t
def Z7 (st:Int) (l:List S162):ByteArray×Bool:=if batchOk st l = true then (batchRows (Zv st.toNat++Zv l.length) l,true) else (⟨#[]⟩,false)
theorem spec_BatchText_loop (st:Int) (l:List S162) (hl:l.length≤60) (hd:∀ x∈l,(1≤x.f0.size∧x.f0.size≤10)∧x.f1.size≤40):∀ (rest:List S162) (n:Nat) (acc:ByteArray),l.drop n = rest→acc.size + 100 * rest.length≤100000 →
  Ev (fun k => ZZ.l0 k acc (n:Int) st l) (batchRows acc rest,true):=by
 intro rest
 induction rest with
 | nil =>
  intro n acc h ha
  have:=ZA h
  refine Ev.step (fun _ => rfl) ?_
  simp only [ZZ.l0]
  rw [batchRows]
  exact Ev.neg (by omega) (Ev.now _)
 | cons x r ih =>
  intro n acc h ha
  obtain ⟨h1,-,h3⟩:=Zg h
  have hm:=hd x (List.mem_of_mem_drop (h ▸ List.mem_cons_self))
  have s0:=shortText_size (show x.f0.size≤34359738367 by omega)
  have s1:=shortText_size (show x.f1.size≤34359738367 by omega)
  have sf:=flagT_size x.f2
  rw [List.length_cons] at ha
  refine Ev.step (fun _ => rfl) ?_
  simp only [ZZ.l0,rdT162_drop h,Z4 (show n≤9223372036854775806 by omega)]
  rw [batchRows]
  have hn:=ih (n + 1) (acc++ZJ x.f0++flagT x.f2++ZJ x.f1) h3 (by simp only [size_append];omega)
  have z1:(⟨#[1]⟩:ByteArray).size = 1:=rfl
  have z0:(⟨#[0]⟩:ByteArray).size = 1:=rfl
  refine Ev.pos (by omega) (Ev.pos (by omega) (Ev.ite (fun hc => ?_) (fun hc => ?_)))
  ·rw [flagT,if_pos hc] at hn ⊢
   exact Ev.bind (spec_l05Short_ev x.f0 (by omega)) (Ev.pos (by omega) (Ev.pos (by simp only [size_append];omega) (Ev.bind (spec_l05Short_ev x.f1 (by omega)) (Ev.pos (by simp only [size_append];omega) hn))))
  ·rw [flagT,if_neg hc] at hn ⊢
   exact Ev.bind (spec_l05Short_ev x.f0 (by omega)) (Ev.pos (by omega) (Ev.pos (by simp only [size_append];omega) (Ev.bind (spec_l05Short_ev x.f1 (by omega)) (Ev.pos (by simp only [size_append];omega) hn))))
theorem spec_BatchText_ev (st:Int) (l:List S162) (hl:l.length≤1048576):Ev (fun k => ZZ.f k st l) (Z7 st l):=by
 unfold ZZ.f Z7
 refine Ev.bind (spec_BatchOk_ev st l hl) (Ev.ite (fun hk => ?_) (fun hk => Ev.done (by rw [if_neg hk])))
 rw [if_pos hk]
 obtain ⟨b1,b2,b3⟩:=Z0Q hk
 have s1:=Z10 (show st.toNat≤34359738367 by omega)
 have s2:=Z10 (show l.length≤34359738367 by omega)
 exact Ev.bind (spec_l01Var_ev st (by omega) (by omega)) (Ev.bind (spec_l01Var_nat _ (by omega)) (Ev.pos (by omega) (spec_BatchText_loop st l b2 b3 l 0 _ rfl (by simp only [size_append];omega))))
def Z0V (x:S162):List Int:=sh x.f0++(flagL x.f2::sh x.f1)
theorem batchRows_bytes:∀ (l:List S162) (acc:ByteArray),bytesOf (batchRows acc l) = bytesOf acc++l.flatMap Z0V
 | [],acc => by simp [batchRows]
 | x::t,acc => by
  rw [batchRows,batchRows_bytes t]
  simp only [Z0z,bytesOf_shortText,bytesOf_flagT,List.flatMap_cons,Z0V,List.append_assoc,List.cons_append,List.nil_append]
theorem batch_parts {st:Int} {l:List S162} {s:ByteArray} (h:Z7 st l = (s,true)):batchOk st l = true∧bytesOf s = varL st.toNat++(varL l.length++l.flatMap Z0V):=by
 unfold Z7 at h
 by_cases hk:batchOk st l = true
 ·rw [if_pos hk] at h
  refine ⟨hk,?_⟩
  rw [←(Prod.mk.inj h).1,batchRows_bytes]
  simp only [Z0z,bytesOf_varText,List.append_assoc]
 ·rw [if_neg hk] at h;simp at h
def BDec (x0:ByteArray) (r:Int×List S162×Bool):Prop:=r = (0,[],false)∨∃ st l,r = (st,l,true)∧Z7 st l = (x0,true)
theorem spec_ReadBatch_fin (x0 s:ByteArray) (n i a:Int) (b:Bool) (st:Int) (acc:List S162) (hl:acc.length≤1048576):To (fun k => Zb.j1 k x0 n i false s a b st acc) (BDec x0):=by
 refine To.step (fun _ => rfl) ?_
 simp only [Zb.j1]
 refine To.neg (by simp) (To.bind (To.ev (P:=fun r => r = Z7 st acc) (spec_BatchText_ev st acc hl) rfl) (fun r e => ?_))
 refine To.ite (fun _ => To.now (Or.inl rfl)) (fun _ => To.ite (fun q1 => To.ite (fun q2 => To.now (Or.inr ⟨_,_,rfl,?_⟩)) (fun _ => To.now (Or.inl rfl))) (fun _ => To.now (Or.inl rfl)))
 rw [←e]
 exact Prod.ext (toList_inj.1 q2) q1
theorem spec_ReadBatch_loop (x0 s:ByteArray) (hs:s.size≤1048575) (N st:Int) (hN:N≤1000000000):∀ (m:Nat) (i a:Int) (b:Bool) (acc:List S162),0≤i→0≤a→a≤s.size→(acc.length:Int)≤a + (if b = true then 1 else 0)→(s.size:Int) - a + (if b = true then 0 else 1)≤m→acc.length≤1048576 →
  To (fun k => Zb.l0 k x0 N i s a b st acc) (BDec x0):=by
 intro m
 induction m with
 | zero =>
  intro i a b acc hi h0 h1 h2 h3 h4
  obtain rfl:b = true:=by cases b <;> simp_all;omega
  refine To.step (fun _ => rfl) ?_
  simp only [Zb.l0]
  exact To.ite (fun _ => spec_ReadBatch_fin x0 s N i a true st acc h4) (fun _ => spec_ReadBatch_fin x0 s N i a true st acc h4)
 | succ m ih =>
  intro i a b acc hi h0 h1 h2 h3 h4
  refine To.step (fun _ => rfl) ?_
  simp only [Zb.l0]
  cases b with
  | true => exact To.ite (fun _ => spec_ReadBatch_fin x0 s N i a true st acc h4) (fun _ => spec_ReadBatch_fin x0 s N i a true st acc h4)
  | false =>
   simp only [Bool.false_eq_true,if_false] at h2 h3
   refine To.ite (fun c => ?_) (fun _ => spec_ReadBatch_fin x0 s N i a false st acc h4)
   refine To.step (fun _ => rfl) ?_
   simp only [Zb.j1,Bool.not_false]
   have p1:=curShort_place (s:=s) (a:=a) (bad:=false) h0 h1
   refine To.pos trivial (To.bind (To.ev (P:=fun r => r = curShort s a false) (spec_l05ReadShort_ev s a false (by omega) h0 h1) rfl) (fun r1 e1 => ?_))
   have t1:r1.2.1 = s:=by rw [e1];exact curShort_text _ _ _
   rw [←e1] at p1
   rw [t1]
   refine To.call (P:=fun r => r = curTake s r1.2.2.1 r1.2.2.2 1) ⟨_,spec_l05Take_eq s _ 1 _ (by omega) p1.1 p1.2 (by omega) (by omega),rfl⟩ (fun r2 e2 => ?_)
   have t2:r2.2.1 = s:=by rw [e2];exact curTake_text _ _ _ _
   have p2:0≤r2.2.2.1∧r2.2.2.1≤s.size:=by rw [e2];exact curTake_place p1.1 p1.2 (by omega)
   rw [t2]
   refine To.bind (To.ev (P:=fun r => r = curShort s r2.2.2.1 r2.2.2.2) (spec_l05ReadShort_ev s _ _ (by omega) p2.1 p2.2) rfl) (fun r3 e3 => ?_)
   have t3:r3.2.1 = s:=by rw [e3];exact curShort_text _ _ _
   have p3:0≤r3.2.2.1∧r3.2.2.1≤s.size:=by rw [e3];exact curShort_place p2.1 p2.2
   rw [t3]
   refine To.pos (by omega) ?_
   rw [Z9 (by omega) (by omega)]
   cases hb:r3.2.2.2 with
   | true =>
    refine To.step (fun _ => rfl) ?_
    simp only [Zb.l0]
    exact To.ite (fun _ => spec_ReadBatch_fin x0 s N _ _ true st _ (by simp;omega)) (fun _ => spec_ReadBatch_fin x0 s N _ _ true st _ (by simp;omega))
   | false =>
    rw [e3] at hb
    obtain ⟨hb2,m3⟩:=curShort_good' p2.1 p2.2 hb
    rw [←e3] at m3
    rw [e2] at hb2
    obtain ⟨hb1,m2,-⟩:=curTake_good' p1.1 (by omega) hb2
    rw [←e2] at m2
    rw [e1] at hb1
    obtain ⟨-,m1⟩:=curShort_good' h0 h1 hb1
    rw [←e1] at m1
    have l1:=m1.le;have l2:=m2.le;have l3:=m3.le
    have v1:=varL_pos r1.1.size
    rw [sh,List.length_append] at l1
    exact ih _ _ false _ (by omega) p3.1 p3.2 (by simp;omega) (by simp;omega) (by simp;omega)
theorem spec_ReadBatch_to (s:ByteArray) (hs:s.size≤1048575):To (fun k => Zb.f k s) (BDec s):=by
 unfold Zb.f
 refine To.bind (To.ev (P:=fun r => r = Z06 s 0 false) (Z05 s 0 false (by omega)) rfl) (fun r1 e1 => ?_)
 have p1:r1.2.1 = s∧0≤r1.2.2.1∧r1.2.2.1≤s.size:=by rw [e1];exact ⟨Z0W _ _ _,Z0w (by omega) (by omega)⟩
 rw [p1.1]
 refine To.bind (To.ev (P:=fun r => r = Z06 s r1.2.2.1 r1.2.2.2) (Z05 s _ _ (by omega)) rfl) (fun r2 e2 => ?_)
 have p2:r2.2.1 = s∧0≤r2.2.2.1∧r2.2.2.1≤s.size:=by rw [e2];exact ⟨Z0W _ _ _,Z0w p1.2.1 p1.2.2⟩
 rw [p2.1]
 have hn:r2.1≤1000000000:=by rw [e2];exact (curNum_nonneg _ _ _).2
 exact spec_ReadBatch_loop s s (by omega) r2.1 r1.1 hn (s.size + 1) 0 r2.2.2.1 r2.2.2.2 [] (by omega) p2.2.1 p2.2.2 (by simp;split <;> omega) (by split <;> omega) (by simp)
theorem spec_ReadBatch_fwd (x0 s:ByteArray) (hs:s.size≤1048576) (st:Int) (l:List S162) (hl:l.length≤60) (h:Z7 st l = (x0,true)):∀ (rest:List S162) (n:Nat) (acc:List S162) (a:Int),acc++rest = l→acc.length = n→(∀ x∈rest,(1≤x.f0.size∧x.f0.size≤10)∧x.f1.size≤40)→At s a (rest.flatMap Z0V) s.size →
  Ev (fun k => Zb.l0 k x0 (l.length:Int) (n:Int) s a false st acc) (st,l,true):=by
 intro rest
 induction rest with
 | nil =>
  intro n acc a h1 h2 h3 h4
  rw [List.append_nil] at h1
  subst h1
  refine Ev.step (fun _ => rfl) ?_
  simp only [Zb.l0]
  refine Ev.neg (by omega) (Ev.step (fun _ => rfl) ?_)
  simp only [Zb.j1]
  exact Ev.neg (by simp) (Ev.bind (Ev.eq (spec_BatchText_ev st acc (by omega)) h) (Ev.neg (by simp) (Ev.pos rfl (Ev.pos rfl (Ev.now _)))))
 | cons x t ih =>
  intro n acc a h1 h2 h3 h4
  have hlen:acc.length + (t.length + 1) = l.length:=by rw [←h1];simp
  obtain ⟨z0,z1⟩:=h3 x List.mem_cons_self
  rw [List.flatMap_cons,Z0V,List.append_assoc] at h4
  obtain ⟨q1,h4⟩:=h4.split
  obtain ⟨q2,h4⟩:=at_cons h4
  obtain ⟨q3,h4⟩:=At.split (P:=sh x.f1) h4
  have l1:=q1.le;have l2:=q2.le;have l3:=q3.le
  refine Ev.step (fun _ => rfl) ?_
  simp only [Zb.l0]
  refine Ev.pos (by omega) (Ev.step (fun _ => rfl) ?_)
  simp only [Zb.j1,Bool.not_false,Z4 (show n≤9223372036854775806 by omega)]
  refine Ev.pos trivial (Ev.bind (Ev.eq (spec_l05ReadShort_ev s a false (by omega) (by omega) (by omega)) (curShort_fwd q1 (by omega))) (Ev.call ((spec_l05Take_eq s (a + ((sh x.f0).length:Int)) 1 false (by omega) (by omega) (by omega) (by omega) (by omega)).trans (congrArg some (take_flag q2))) (Ev.bind (Ev.eq (spec_l05ReadShort_ev s (a + ((sh x.f0).length:Int) + 1) false (by omega) (by omega) (by omega)) (curShort_fwd q3 (by omega))) (Ev.pos (by omega) ?_))))
  simp only [(flag_at x.f2).2.2.1]
  exact ih (n + 1) _ _ (by rw [←h1,List.append_assoc];rfl) (by simp [h2]) (fun y hy => h3 y (List.mem_cons_of_mem _ hy)) h4
theorem spec_ReadBatch_good (s:ByteArray) (hs:s.size≤1048576) (st:Int) (l:List S162) (h:Z7 st l = (s,true)):Ev (fun k => Zb.f k s) (st,l,true):=by
 obtain ⟨hk,hb⟩:=batch_parts h
 obtain ⟨b1,b2,b3⟩:=Z0Q hk
 have hw:=At.whole s
 rw [hb] at hw
 obtain ⟨q1,hw⟩:=hw.split
 obtain ⟨q2,hw⟩:=hw.split
 unfold Zb.f
 refine Ev.bind (Ev.eq (Z05 s 0 false (by omega)) (curNum_fwd q1 (by omega))) (Ev.bind (Ev.eq (Z05 s _ false (by omega)) (curNum_fwd q2 (by omega))) ?_)
 simp only [Int.toNat_of_nonneg b1.1]
 exact spec_ReadBatch_fwd s s hs st l b2 h l 0 [] _ rfl rfl b3 hw
theorem impl_BatchOk_loop (st:Int) (l:List S162) (hl:l.length≤1048576):∀ (rest:List S162) (n:Nat),l.drop n = rest→Ev (fun k => Z0v.l0 k l (l.length:Int) (n:Int) st l) (batchIn (keyOfC l n) rest && (inR st 0 100000 && decide (l.length≤60))):=by
 intro rest
 induction rest with
 | nil =>
  intro n h
  have:=ZA h
  refine Ev.step (fun _ => rfl) ?_
  simp only [Z0v.l0]
  refine Ev.neg (by omega) (Ev.call (Z0d _ _ _) ?_)
  rw [batchIn,Bool.true_and]
  cases inR st 0 100000
  ·exact Ev.neg (by simp) (Ev.done (by simp))
  ·exact Ev.pos rfl (Ev.done (by rw [Bool.true_and];exact decide_eq_decide.2 (by omega)))
 | cons x t ih =>
  intro n h
  obtain ⟨h1,-,h3⟩:=Zg h
  have hk:keyOfC l (n + 1) = some x.f0:=by rw [keyOfC,rdT162_drop h]
  have ih:=ih (n + 1) h3
  rw [hk] at ih
  have prev:∀ r,r = (keyUp (keyOfC l n) x.f0 && (batchIn (some x.f0) t && (inR st 0 100000 && decide (l.length≤60))))→Ev (fun k => if (n:Int) > 0 then (if 0≤(wrap64 ((n:Int) - 1)) then (if (wrap64 ((n:Int) - 1)) < (l.length:Int) then (if ((Op.bytesLess (((ZP l (wrap64 ((n:Int) - 1))).f0).toList) (x.f0.toList)) = true) then (Z0v.l0 k l (l.length:Int) ((n + 1:Nat):Int) st l) else some false) else none) else none) else (Z0v.l0 k l (l.length:Int) ((n + 1:Nat):Int) st l)) r:=by
   rintro r rfl
   cases n with
   | zero => exact Ev.neg (by omega) (Ev.eq ih (by simp [keyOfC,keyUp]))
   | succ m =>
    simp only [wrap64_pred (show m≤9223372036854775806 by omega)]
    refine Ev.pos (by omega) (Ev.pos (by omega) (Ev.pos (by omega) (Ev.ite (fun hc => Ev.eq ih ?_) (fun hc => Ev.done ?_))))
    ·simp only [keyOfC,keyUp,hc];simp
    ·simp only [keyOfC,keyUp,Bool.eq_false_iff.2 hc];simp
  refine Ev.step (fun _ => rfl) ?_
  simp only [Z0v.l0,rdT162_drop h,Z4 (show n≤9223372036854775806 by omega)]
  refine Ev.pos (by omega) (Ev.pos (by omega) (Ev.pos (by omega) (Ev.call (impl_keyOk_eq _) ?_)))
  rw [batchIn]
  cases h0:inR x.f0.size 1 10
  ·exact Ev.neg (by simp) (Ev.done (by simp))
  refine Ev.pos rfl (Ev.ite (fun c => Ev.done (by rw [decide_eq_false (show ¬ x.f1.size≤40 by omega)];simp)) (fun c => ?_))
  rw [decide_eq_true (show x.f1.size≤40 by omega)]
  refine Ev.ite (fun c2 => Ev.ite (fun c3 => prev _ ?_) (fun c3 => Ev.done ?_)) (fun c2 => prev _ ?_)
  ·rw [c2,(emp_iff _).1 c3];simp [Bool.and_assoc]
  ·rw [c2,show emp x.f1 = false by simpa using fun e => c3 ((emp_iff _).2 e)];simp
  ·rw [show x.f2 = false by simpa using c2];simp [Bool.and_assoc]
theorem impl_BatchOk_ev (st:Int) (l:List S162) (hl:l.length≤1048576):Ev (fun k => Z0v.f k st l) (batchOk st l):=by
 refine Ev.eq (impl_BatchOk_loop st l hl l 0 rfl) ?_
 unfold batchOk
 show (batchIn none l && _) = _
 cases inR st 0 100000 <;> cases decide (l.length≤60) <;> simp
theorem impl_BatchText_loop (l:List S162) (hl:l.length≤60) (hd:∀ x∈l,(1≤x.f0.size∧x.f0.size≤10)∧x.f1.size≤40):∀ (rest:List S162) (n:Nat) (acc:ByteArray),l.drop n = rest→acc.size + 100 * rest.length≤100000 →
  Ev (fun k => Z0j.l0 k acc l (l.length:Int) (n:Int)) (batchRows acc rest,true):=by
 intro rest
 induction rest with
 | nil =>
  intro n acc h ha
  have:=ZA h
  refine Ev.step (fun _ => rfl) ?_
  simp only [Z0j.l0]
  rw [batchRows]
  exact Ev.neg (by omega) (Ev.now _)
 | cons x r ih =>
  intro n acc h ha
  obtain ⟨h1,-,h3⟩:=Zg h
  have hm:=hd x (List.mem_of_mem_drop (h ▸ List.mem_cons_self))
  have s0:=shortText_size (show x.f0.size≤34359738367 by omega)
  have s1:=shortText_size (show x.f1.size≤34359738367 by omega)
  have sf:=flagT_size x.f2
  rw [List.length_cons] at ha
  refine Ev.step (fun _ => rfl) ?_
  simp only [Z0j.l0,rdT162_drop h,Z4 (show n≤9223372036854775806 by omega)]
  rw [batchRows]
  have hn:=ih (n + 1) (acc++((ZJ x.f0++flagT x.f2)++ZJ x.f1)) h3 (by simp only [size_append];omega)
  rw [show acc++ZJ x.f0++flagT x.f2++ZJ x.f1 = acc++((ZJ x.f0++flagT x.f2)++ZJ x.f1) by simp only [ByteArray.append_assoc]]
  exact Ev.pos (by omega) (Ev.pos (by omega) (Ev.pos (by omega) (Ev.bind (impl_short_ev x.f0 (by omega)) (Ev.call (impl_flag_eq x.f2) (Ev.pos (by omega) (Ev.bind (impl_short_ev x.f1 (by omega)) (Ev.pos (by simp only [size_append];omega) (Ev.pos (by simp only [size_append];omega) hn))))))))
theorem impl_vars2 (st:Int) (n:Nat) (h:0≤st∧st≤100000) (hn:n≤60):Ev (fun k => impl_vars.f k [st,(n:Int)]) (Zv st.toNat++Zv n,true):=by
 refine Ev.eq (impl_vars_ev _ (by simp)) ?_
 rw [varsOf,if_pos (by simp [Zu];omega)]
 simp [Zv,strOfNums_append]
theorem impl_BatchText_ev (st:Int) (l:List S162) (hl:l.length≤1048576):Ev (fun k => Z0j.f k st l) (Z7 st l):=by
 unfold Z0j.f Z7
 refine Ev.bind (impl_BatchOk_ev st l hl) (Ev.ite (fun hk => ?_) (fun hk => Ev.done (by rw [if_neg hk])))
 rw [if_pos hk]
 obtain ⟨b1,b2,b3⟩:=Z0Q hk
 have s1:=Z10 (show st.toNat≤34359738367 by omega)
 have s2:=Z10 (show l.length≤34359738367 by omega)
 exact Ev.bind (impl_vars2 st l.length b1 b2) (impl_BatchText_loop l b2 b3 l 0 _ rfl (by simp only [size_append];omega))
theorem impl_ReadBatch_step (s:ByteArray) (hs:s.size≤1048576) (a:Int) (h0:0≤a) (h1:a≤s.size) (st:Int) (acc:List S162) (hl:acc.length≤1048577):To (fun k => impl_ReadBatch_c1.f k s a false st acc) (fun r => r.1 = st∧r.2.2.1 = s∧(0≤r.2.2.2.1∧r.2.2.2.1≤s.size)∧(∃ x:S162,r.2.1 = acc++[x])∧(r.2.2.2.2 = false→a < r.2.2.2.1)):=by
 unfold impl_ReadBatch_c1.f
 refine To.bind (To.ev (P:=fun r => r = curText s a false) (impl_reader_text_ev s a false (by omega)) rfl) (fun r1 e1 => ?_)
 have p1:r1.2.1 = s∧0≤r1.2.2.1∧r1.2.2.1≤s.size:=by rw [e1];exact ⟨curText_text _ _ _,curText_place h0 h1⟩
 rw [p1.1]
 refine To.call (P:=fun r => r = curByte s r1.2.2.1 r1.2.2.2) ⟨_,impl_reader_byte_eq s _ _ (by omega) p1.2.1 p1.2.2,rfl⟩ (fun r2 e2 => ?_)
 have p2:r2.2.1 = s∧0≤r2.2.2.1∧r2.2.2.1≤s.size:=by rw [e2];exact ⟨curByte_text _ _ _,curByte_place p1.2.1 p1.2.2⟩
 rw [p2.1]
 refine To.bind (To.ev (P:=fun r => r = curText s r2.2.2.1 r2.2.2.2) (impl_reader_text_ev s _ _ (by omega)) rfl) (fun r3 e3 => ?_)
 have p3:r3.2.1 = s∧0≤r3.2.2.1∧r3.2.2.1≤s.size:=by rw [e3];exact ⟨curText_text _ _ _,curText_place p2.2.1 p2.2.2⟩
 refine To.pos (by omega) (To.now ⟨rfl,p3.1,p3.2,⟨_,rfl⟩,fun hb => ?_⟩)
 dsimp only at hb ⊢
 rw [e3] at hb
 obtain ⟨hb2,m3,-⟩:=curText_good' hb
 rw [←e3] at m3
 rw [e2] at hb2
 obtain ⟨hb1,m2,-⟩:=curByte_good' p1.2.1 hb2
 rw [←e2] at m2
 have l2:=m2.le;have l3:=m3.le
 simp only [List.length_singleton] at l2
 rw [e1] at hb1
 obtain ⟨-,m1,-⟩:=curText_good' hb1
 rw [←e1] at m1
 have l1:=m1.le
 omega
theorem impl_ReadBatch_loop (s:ByteArray) (hs:s.size≤1048576) (N st:Int):∀ (m:Nat) (i a:Int) (b:Bool) (acc:List S162),0≤a→a≤s.size→(acc.length:Int)≤a + (if b = true then 1 else 0)→(s.size:Int) - a + (if b = true then 0 else 1)≤m →
  To (fun k => ZI.l0 k N i s a b st acc) (fun r => r.1 = s∧r.2.2.2.1 = st∧r.2.2.2.2.length≤s.size + 1):=by
 intro m
 induction m with
 | zero =>
  intro i a b acc h0 h1 h2 h3
  obtain rfl:b = true:=by cases b <;> simp_all;omega
  simp only [if_true] at h2
  refine To.step (fun _ => rfl) ?_
  simp only [ZI.l0]
  exact To.ite (fun _ => To.pos (by simp) (To.now ⟨rfl,rfl,by dsimp only;omega⟩)) (fun _ => To.now ⟨rfl,rfl,by dsimp only;omega⟩)
 | succ m ih =>
  intro i a b acc h0 h1 h2 h3
  refine To.step (fun _ => rfl) ?_
  simp only [ZI.l0]
  cases b with
  | true =>
   simp only [if_true] at h2
   exact To.ite (fun _ => To.pos (by simp) (To.now ⟨rfl,rfl,by dsimp only;omega⟩)) (fun _ => To.now ⟨rfl,rfl,by dsimp only;omega⟩)
  | false =>
   simp only [Bool.false_eq_true,if_false] at h2 h3
   refine To.ite (fun c => To.neg (by simp) (To.bind (impl_ReadBatch_step s (by omega) a h0 h1 st acc (by omega)) (fun r p => ?_))) (fun c => To.now ⟨rfl,rfl,by dsimp only;omega⟩)
   obtain ⟨st',out',s',a',b'⟩:=r
   obtain ⟨p0,p1,p2,⟨x,p3⟩,p5⟩:=p
   dsimp only at p0 p1 p2 p3 p5 ⊢
   subst p0
   subst p1
   subst p3
   cases b' with
   | true =>
    refine To.step (fun _ => rfl) ?_
    simp only [ZI.l0]
    exact To.ite (fun _ => To.pos (by simp) (To.now ⟨rfl,rfl,by simp;omega⟩)) (fun _ => To.now ⟨rfl,rfl,by simp;omega⟩)
   | false =>
    have:=p5 rfl
    exact ih _ a' false (acc++[x]) p2.1 p2.2 (by simp;omega) (by simp;omega)
theorem impl_ReadBatch_to (s:ByteArray) (hs:s.size≤1048575):To (fun k => impl_ReadBatch.f k s) (BDec s):=by
 unfold impl_ReadBatch.f
 refine To.bind (To.ev (P:=fun r => r = Z06 s 0 false) (ZS s 0 false (by omega)) rfl) (fun r1 e1 => ?_)
 have p1:r1.2.1 = s∧0≤r1.2.2.1∧r1.2.2.1≤s.size:=by rw [e1];exact ⟨Z0W _ _ _,Z0w (by omega) (by omega)⟩
 rw [p1.1]
 refine To.bind (P:=fun (r:ByteArray×Int×Bool×Int×List S162) => r.1 = s∧r.2.2.2.1 = r1.1∧r.2.2.2.2.length≤s.size + 1) ?_ (fun r p => ?_)
 ·unfold ZI.f
  refine To.bind (To.ev (P:=fun r => r = Z06 s r1.2.2.1 r1.2.2.2) (ZS s _ _ (by omega)) rfl) (fun r2 e2 => ?_)
  have p2:r2.2.1 = s∧0≤r2.2.2.1∧r2.2.2.1≤s.size:=by rw [e2];exact ⟨Z0W _ _ _,Z0w p1.2.1 p1.2.2⟩
  rw [p2.1]
  exact impl_ReadBatch_loop s (by omega) r2.1 r1.1 (s.size + 1) 0 r2.2.2.1 r2.2.2.2 [] p2.2.1 p2.2.2 (by simp;split <;> omega) (by split <;> omega)
 ·refine To.bind (To.ev (P:=fun z => z = Z7 r.2.2.2.1 r.2.2.2.2) (impl_BatchText_ev _ _ (by omega)) rfl) (fun z ez => ?_)
  refine To.ite (fun _ => To.now (Or.inl rfl)) (fun _ => To.ite (fun q1 => To.ite (fun q2 => To.now (Or.inr ⟨_,_,rfl,?_⟩)) (fun _ => To.now (Or.inl rfl))) (fun _ => To.now (Or.inl rfl)))
  rw [←ez]
  exact Prod.ext (toList_inj.1 q2) q1
theorem impl_ReadBatch_fwd (s:ByteArray) (hs:s.size≤1048576) (st:Int):∀ (rest:List S162) (i:Nat) (acc:List S162) (a b:Int),(∀ x∈rest,(1≤x.f0.size∧x.f0.size≤10)∧x.f1.size≤40)→i + rest.length≤60→acc.length = i→At s a (rest.flatMap Z0V) b →
  Ev (fun k => ZI.l0 k ((i + rest.length:Nat):Int) (i:Int) s a false st acc) (s,b,false,st,acc++rest):=by
 intro rest
 induction rest with
 | nil =>
  intro i acc a b h1 h2 h3 h4
  refine Ev.step (fun _ => rfl) ?_
  simp only [ZI.l0]
  have:=h4.le
  refine Ev.neg (by simp) (Ev.done ?_)
  simp only [List.flatMap_nil,List.length_nil] at this
  rw [List.append_nil,show a = b by omega]
 | cons x t ih =>
  intro i acc a b h1 h2 h3 h4
  rw [List.length_cons] at h2
  obtain ⟨z0,z1⟩:=h1 x List.mem_cons_self
  rw [List.flatMap_cons,Z0V,List.append_assoc] at h4
  obtain ⟨q1,h4⟩:=h4.split
  obtain ⟨q2,h4⟩:=at_cons h4
  obtain ⟨q3,h4⟩:=At.split (P:=sh x.f1) h4
  have l1:=q1.le;have l2:=q2.le;have l3:=q3.le
  refine Ev.step (fun _ => rfl) ?_
  simp only [ZI.l0,impl_ReadBatch_c1.f,Z4 (show i≤9223372036854775806 by omega)]
  refine Ev.pos (by simp only [List.length_cons];omega) (Ev.neg (by simp) (Ev.bind (a:=(st,acc++[x],s,a + ((sh x.f0).length:Int) + 1 + ((sh x.f1).length:Int),false)) ?_ ?_))
  ·refine Ev.bind (Ev.eq (impl_reader_text_ev s a false (by omega)) (curText_fwd q1 (by omega))) (Ev.call ((impl_reader_byte_eq s (a + ((sh x.f0).length:Int)) false (by omega) (by omega) (by omega)).trans (congrArg some (curByte_fwd q2))) (Ev.bind (Ev.eq (impl_reader_text_ev s _ false (by omega)) (curText_fwd q3 (by omega))) (Ev.pos (by omega) (Ev.done ?_))))
   simp only [(flag_at x.f2).2.2.2]
  ·have:=ih (i + 1) (acc++[x]) _ b (fun y hy => h1 y (List.mem_cons_of_mem _ hy)) (by omega) (by simp [h3]) h4
   rw [show i + 1 + t.length = i + (x::t).length by simp;omega] at this
   exact Ev.eq this (by simp)
theorem impl_ReadBatch_good (s:ByteArray) (hs:s.size≤1048576) (st:Int) (l:List S162) (h:Z7 st l = (s,true)):Ev (fun k => impl_ReadBatch.f k s) (st,l,true):=by
 obtain ⟨hk,hb⟩:=batch_parts h
 obtain ⟨b1,b2,b3⟩:=Z0Q hk
 have hw:=At.whole s
 rw [hb] at hw
 obtain ⟨q1,hw⟩:=hw.split
 obtain ⟨q2,hw⟩:=hw.split
 unfold impl_ReadBatch.f ZI.f
 refine Ev.bind (Ev.eq (ZS s 0 false (by omega)) (curNum_fwd q1 (by omega))) (Ev.bind (a:=(s,(s.size:Int),false,st,l)) ?_ ?_)
 ·refine Ev.bind (Ev.eq (ZS s _ false (by omega)) (curNum_fwd q2 (by omega))) ?_
  have:=impl_ReadBatch_fwd s hs st l 0 [] _ _ b3 (by omega) rfl hw
  rw [Nat.zero_add] at this
  rw [Int.toNat_of_nonneg b1.1]
  exact this
 ·exact Ev.bind (Ev.eq (impl_BatchText_ev st l (by omega)) h) (Ev.neg (by simp) (Ev.pos rfl (Ev.pos rfl (Ev.now _))))
def RB (s:ByteArray) (r:Int×List S162×Bool):Prop:=Ev (fun k => Zb.f k s) r∧Ev (fun k => impl_ReadBatch.f k s) r∧(r.2.2 = true→batchOk r.1 r.2.1 = true)
theorem readBatch_both (s:ByteArray) (hs:s.size≤1048575):∃ r,RB s r:=by
 by_cases hex:∃ st l,Z7 st l = (s,true)
 ·obtain ⟨st,l,h⟩:=hex
  exact ⟨(st,l,true),spec_ReadBatch_good s (by omega) st l h,impl_ReadBatch_good s (by omega) st l h,fun _ => (batch_parts h).1⟩
 ·obtain ⟨r,hr,p⟩:=spec_ReadBatch_to s hs
  obtain ⟨r',hr',p'⟩:=impl_ReadBatch_to s hs
  rcases p with rfl | ⟨st,l,-,h⟩
  ·rcases p' with rfl | ⟨st,l,-,h⟩
   ·exact ⟨_,hr,hr',fun h => by cases h⟩
   ·exact absurd ⟨st,l,h⟩ hex
  ·exact absurd ⟨st,l,h⟩ hex
def spotsAt (seg:Int):Int→List S162→List S145
 | _,[] => []
 | a,x::t => (if x.f2 = true then (⟨x.f0,seg,0,-1⟩:S145) else ⟨x.f0,seg,a + ((ZJ x.f0).size:Int) + 1 + ((Zv x.f1.size).size:Int),(x.f1.size:Int)⟩)::spotsAt seg (a + ((ZJ x.f0).size:Int) + 1 + ((Zv x.f1.size).size:Int) + (x.f1.size:Int)) t
theorem spotsAt_length (seg:Int):∀ (l:List S162) (a:Int),(spotsAt seg a l).length = l.length
 | [],_ => rfl
 | x::t,a => by rw [spotsAt,List.length_cons,List.length_cons,spotsAt_length seg t]
theorem short_sz (t:ByteArray):(ZJ t).size = (Zv t.size).size + t.size:=by rw [ZJ,size_append]
theorem frame_le8 (s:ByteArray):(frame s).1.size≤9009:=by
 unfold frame
 split
 ·rename_i h
  have:=Zu.1 h
  have hv:=Z10 (show s.size≤34359738367 by omega)
  have h4:=four_size (sumOf s)
  simp only [size_append];omega
 ·exact Nat.zero_le _
def scanOn (rb:ByteArray→Int×List S162×Bool) (seg:Int):Int→List ByteArray→List S145×List ByteArray×Int→List S145×List ByteArray×Int
 | _,[],r => r
 | a,c::t,r => if (rb c).2.2 = true then scanOn rb seg (a + ((frame c).1.size:Int)) t (r.1++spotsAt seg (a + ((frame c).1.size:Int) - (c.size:Int) + ((Zv (rb c).1.toNat).size:Int) + ((Zv (rb c).2.1.length).size:Int)) (rb c).2.1,r.2.1++[c],mx r.2.2 (rb c).1) else r
theorem spec_ScanSeg_inner (seg:Int) (tx:List ByteArray) (stamp:Int) (list:List ByteArray) (at_:Int) (i:Nat) (f:ByteArray) (st:Int) (l:List S162) (hl:l.length≤60) (hd:∀ x∈l,(1≤x.f0.size∧x.f0.size≤10)∧x.f1.size≤40) (hi:i < list.length) (htx:tx.length≤20000) (r:List S145×List ByteArray×Int):∀ (rest:List S162) (n:Nat) (a:Int) (sp:List S145),l.drop n = rest→sp.length + rest.length≤10000000→-1000000≤a→a + 1000 * (rest.length:Int)≤1000000000000 →
  Ev (fun k => ZV.l0 k seg (sp++spotsAt seg a rest) (tx++[rdOf ByteArray.empty list (i:Int)]) (mx stamp st) list (wrap64 (at_ + (f.size:Int))) (wrap64 ((i:Int) + 1))) r →
  Ev (fun k => ZV.l1 k seg sp tx stamp list at_ (i:Int) f a (n:Int) st l) r:=by
 intro rest
 induction rest with
 | nil =>
  intro n a sp h hs h0 h1 hk
  have:=ZA h
  rw [spotsAt,List.append_nil,mx] at hk
  refine Ev.step (fun _ => rfl) ?_
  simp only [ZV.l1]
  refine Ev.neg (by omega) (Ev.ite (fun c => Ev.pos (by omega) (Ev.pos (by omega) (Ev.pos (by omega) ?_))) (fun c => Ev.pos (by omega) (Ev.pos (by omega) (Ev.pos (by omega) ?_))))
  ·rw [if_pos (show stamp < st by omega)] at hk;exact hk
  ·rw [if_neg (show ¬ stamp < st by omega)] at hk;exact hk
 | cons x t ih =>
  intro n a sp h hs h0 h1 hk
  obtain ⟨h2,-,h3⟩:=Zg h
  have hm:=hd x (List.mem_of_mem_drop (h ▸ List.mem_cons_self))
  have s0:=shortText_size (show x.f0.size≤34359738367 by omega)
  have s1:=Z10 (show x.f1.size≤34359738367 by omega)
  rw [List.length_cons] at h1 hs
  rw [spotsAt] at hk
  refine Ev.step (fun _ => rfl) ?_
  simp only [ZV.l1,rdT162_drop h,Z4 (show n≤9223372036854775806 by omega)]
  refine Ev.pos (by omega) (Ev.pos (by omega) (Ev.bind (spec_l05Short_ev x.f0 (by omega)) (Ev.bind (spec_l01Var_nat x.f1.size (by omega)) ?_)))
  rw [Z9 (n:=a + ((ZJ x.f0).size:Int)) (by omega) (by omega),Z9 (n:=a + ((ZJ x.f0).size:Int) + 1) (by omega) (by omega),Z9 (n:=a + ((ZJ x.f0).size:Int) + 1 + ((Zv x.f1.size).size:Int)) (by omega) (by omega),Z9 (n:=a + ((ZJ x.f0).size:Int) + 1 + ((Zv x.f1.size).size:Int) + (x.f1.size:Int)) (by omega) (by omega)]
  refine Ev.ite (fun c => Ev.pos (by omega) ?_) (fun c => Ev.pos (by omega) ?_)
  ·rw [if_pos c] at hk
   exact ih (n + 1) _ _ h3 (by simp;omega) (by omega) (by omega) (by simpa using hk)
  ·rw [if_neg c] at hk
   exact ih (n + 1) _ _ h3 (by simp;omega) (by omega) (by omega) (by simpa using hk)
theorem spec_ScanSeg_loop (rb:ByteArray→Int×List S162×Bool) (hrb:∀ c,c.size≤9000→Ev (fun k => Zb.f k c) (rb c)∧((rb c).2.2 = true→batchOk (rb c).1 (rb c).2.1 = true)) (seg:Int) (list:List ByteArray) (hl:list.length≤20000) (hc:∀ c∈list,c.size≤9000):∀ (rest:List ByteArray) (n:Nat) (a:Int) (sp:List S145) (tx:List ByteArray) (stamp:Int),list.drop n = rest→sp.length≤60 * n→tx.length = n→0≤a→a≤9009 * (n:Int) →
  Ev (fun k => ZV.l0 k seg sp tx stamp list a (n:Int)) (scanOn rb seg a rest (sp,tx,stamp)):=by
 intro rest
 induction rest with
 | nil =>
  intro n a sp tx stamp h hs ht h0 h1
  have:=ZA h
  refine Ev.step (fun _ => rfl) ?_
  simp only [ZV.l0]
  exact Ev.neg (by omega) (Ev.now _)
 | cons x r ih =>
  intro n a sp tx stamp h hs ht h0 h1
  obtain ⟨h2,-,h3⟩:=Zg h
  have hm:=hc x (List.mem_of_mem_drop (h ▸ List.mem_cons_self))
  have hf:=frame_le8 x
  obtain ⟨q2,q3⟩:=hrb x hm
  refine Ev.step (fun _ => rfl) ?_
  simp only [ZV.l0,rdOf_drop h]
  rw [scanOn]
  refine Ev.pos (by omega) (Ev.pos (by omega) (Ev.bind q2 (Ev.ite (fun c => ?_) (fun c => Ev.done (by rw [if_neg c])))))
  rw [if_pos c]
  obtain ⟨b1,b2,b3⟩:=Z0Q (q3 c)
  have s1:=Z10 (show (rb x).1.toNat≤34359738367 by omega)
  have s2:=Z10 (show (rb x).2.1.length≤34359738367 by omega)
  refine Ev.bind (spec_Frame_ev x (by omega)) (Ev.bind (spec_l01Var_ev (rb x).1 (by omega) (by omega)) (Ev.bind (spec_l01Var_nat (rb x).2.1.length (by omega)) ?_))
  rw [Z9 (n:=a + ((frame x).1.size:Int)) (by omega) (by omega),Z9 (n:=a + ((frame x).1.size:Int) - (x.size:Int)) (by omega) (by omega),Z9 (n:=a + ((frame x).1.size:Int) - (x.size:Int) + ((Zv (rb x).1.toNat).size:Int)) (by omega) (by omega),Z9 (n:=a + ((frame x).1.size:Int) - (x.size:Int) + ((Zv (rb x).1.toNat).size:Int) + ((Zv (rb x).2.1.length).size:Int)) (by omega) (by omega)]
  refine spec_ScanSeg_inner seg tx stamp list a n (frame x).1 (rb x).1 (rb x).2.1 b2 b3 (by omega) (by omega) _ (rb x).2.1 0 _ sp rfl (by omega) (by omega) (by omega) ?_
  ·rw [rdOf_drop h,Z9 (n:=a + ((frame x).1.size:Int)) (by omega) (by omega),Z4 (show n≤9223372036854775806 by omega)]
   exact ih (n + 1) _ _ _ _ h3 (by rw [List.length_append,spotsAt_length];omega) (by simp [ht]) (by omega) (by omega)
theorem spec_ScanSeg_ev (rb:ByteArray→Int×List S162×Bool) (hrb:∀ c,c.size≤9000→Ev (fun k => Zb.f k c) (rb c)∧((rb c).2.2 = true→batchOk (rb c).1 (rb c).2.1 = true)) (s:ByteArray) (seg:Int):Ev (fun k => ZV.f k s seg) (scanOn rb seg 0 (ZY s).1 ([],[],-1)):=by
 unfold ZV.f
 obtain ⟨u1,u2⟩:=unframe_bounds s
 exact Ev.bind (spec_Unframe_ev s) (spec_ScanSeg_loop rb hrb seg _ u1 u2 _ 0 0 [] [] (-1) rfl (by simp) rfl (by omega) (by omega))
theorem scanOn_len (rb:ByteArray→Int×List S162×Bool) (hrb:∀ c,c.size≤9000→((rb c).2.2 = true→batchOk (rb c).1 (rb c).2.1 = true)) (seg:Int):∀ (l:List ByteArray) (a:Int) (r:List S145×List ByteArray×Int),(∀ c∈l,c.size≤9000)→(scanOn rb seg a l r).1.length≤r.1.length + 60 * l.length∧(scanOn rb seg a l r).2.1.length≤r.2.1.length + l.length
 | [],a,r,_ => by simp [scanOn]
 | c::t,a,r,h => by
  rw [scanOn]
  split
  ·rename_i hc
   have hb:=(Z0Q (hrb c (h c List.mem_cons_self) hc)).2.1
   have:=scanOn_len rb hrb seg t (a + ((frame c).1.size:Int)) (r.1++spotsAt seg (a + ((frame c).1.size:Int) - (c.size:Int) + ((Zv (rb c).1.toNat).size:Int) + ((Zv (rb c).2.1.length).size:Int)) (rb c).2.1,r.2.1++[c],mx r.2.2 (rb c).1) (fun y hy => h y (List.mem_cons_of_mem _ hy))
   simp only [List.length_append,spotsAt_length,List.length_singleton] at this
   simp only [List.length_cons]
   omega
  ·simp only [List.length_cons];omega
theorem impl_spotsOf_loop (seg:Int) (l:List S162) (hl:l.length≤60) (hd:∀ x∈l,(1≤x.f0.size∧x.f0.size≤10)∧x.f1.size≤40):∀ (rest:List S162) (n:Nat) (a:Int) (acc:List S145),l.drop n = rest→acc.length = n→-1000000≤a→a + 1000 * (rest.length:Int)≤1000000000000 →
  Ev (fun k => Z0T.l0 k seg a acc l (l.length:Int) (n:Int)) (acc++spotsAt seg a rest):=by
 intro rest
 induction rest with
 | nil =>
  intro n a acc h ha h0 h1
  have:=ZA h
  refine Ev.step (fun _ => rfl) ?_
  simp only [Z0T.l0]
  exact Ev.neg (by omega) (Ev.done (by simp [spotsAt]))
 | cons x r ih =>
  intro n a acc h ha h0 h1
  obtain ⟨h2,-,h3⟩:=Zg h
  have hm:=hd x (List.mem_of_mem_drop (h ▸ List.mem_cons_self))
  have s0:=shortText_size (show x.f0.size≤34359738367 by omega)
  have s1:=shortText_size (show x.f1.size≤34359738367 by omega)
  have e1:=short_sz x.f1
  rw [List.length_cons] at h1
  refine Ev.step (fun _ => rfl) ?_
  simp only [Z0T.l0,rdT162_drop h,Z4 (show n≤9223372036854775806 by omega)]
  refine Ev.pos (by omega) (Ev.pos (by omega) (Ev.pos (by omega) (Ev.bind (impl_short_ev x.f1 (by omega)) (Ev.bind (impl_short_ev x.f0 (by omega)) ?_))))
  rw [Z9 (n:=((ZJ x.f0).size:Int) + 1) (by omega) (by omega),Z9 (n:=((ZJ x.f0).size:Int) + 1 + ((ZJ x.f1).size:Int)) (by omega) (by omega),Z9 (n:=a + (((ZJ x.f0).size:Int) + 1 + ((ZJ x.f1).size:Int))) (by omega) (by omega),Z9 (n:=a + (((ZJ x.f0).size:Int) + 1 + ((ZJ x.f1).size:Int)) - (x.f1.size:Int)) (by omega) (by omega)]
  have eA:a + (((ZJ x.f0).size:Int) + 1 + ((ZJ x.f1).size:Int)) = a + ((ZJ x.f0).size:Int) + 1 + ((Zv x.f1.size).size:Int) + (x.f1.size:Int):=by omega
  have eB:a + ((ZJ x.f0).size:Int) + 1 + ((Zv x.f1.size).size:Int) + (x.f1.size:Int) - (x.f1.size:Int) = a + ((ZJ x.f0).size:Int) + 1 + ((Zv x.f1.size).size:Int):=by omega
  rw [eA,eB,spotsAt]
  refine Ev.ite (fun c => Ev.pos (by omega) ?_) (fun c => Ev.pos (by omega) ?_)
  ·rw [if_pos c]
   have:=ih (n + 1) (a + ((ZJ x.f0).size:Int) + 1 + ((Zv x.f1.size).size:Int) + (x.f1.size:Int)) (acc++[(⟨x.f0,seg,0,-1⟩:S145)]) h3 (by simp [ha]) (by omega) (by omega)
   exact Ev.eq this (by simp)
  ·rw [if_neg c]
   have:=ih (n + 1) (a + ((ZJ x.f0).size:Int) + 1 + ((Zv x.f1.size).size:Int) + (x.f1.size:Int)) (acc++[(⟨x.f0,seg,a + ((ZJ x.f0).size:Int) + 1 + ((Zv x.f1.size).size:Int),(x.f1.size:Int)⟩:S145)]) h3 (by simp [ha]) (by omega) (by omega)
   exact Ev.eq this (by simp)
theorem impl_spotsOf_ev (st:Int) (l:List S162) (c:ByteArray) (a seg:Int) (hk:batchOk st l = true) (h0:-100000≤a) (h1:a≤10000000000):Ev (fun k => Z0T.f k st l c a seg) (spotsAt seg (a + ((Zv st.toNat).size:Int) + ((Zv l.length).size:Int)) l):=by
 obtain ⟨b1,b2,b3⟩:=Z0Q hk
 have s1:=Z10 (show st.toNat≤34359738367 by omega)
 have s2:=Z10 (show l.length≤34359738367 by omega)
 unfold Z0T.f
 refine Ev.bind (impl_vars2 st l.length b1 b2) ?_
 have e:wrap64 (a + ((Zv st.toNat++Zv l.length).size:Int)) = a + ((Zv st.toNat).size:Int) + ((Zv l.length).size:Int):=by
  rw [size_append,Z9 (by omega) (by omega)];omega
 dsimp only
 rw [e]
 exact Ev.eq (impl_spotsOf_loop seg l b2 b3 l 0 _ [] rfl rfl (by omega) (by omega)) (by simp)
theorem impl_Unframe_loopB (s:ByteArray) (hs:s.size≤20000):∀ (m:Nat) (acc:List ByteArray) (a:Int),0≤a→a≤s.size→(acc.length:Int)≤a→(s.size:Int) - a < m→Ev (fun k => ZO.l0 k s acc a) (unfr s m acc a):=by
 intro m
 induction m with
 | zero => intro acc a h0 h1 h2 h3;omega
 | succ m ih =>
  intro acc a h0 h1 h2 h3
  refine Ev.step (fun _ => rfl) ?_
  simp only [ZO.l0]
  rw [unfr]
  refine Ev.bind (impl_ReadVar_ev s a (by omega)) ?_
  cases hb:(Zi s a).2.2
  ·have e:Z0F s a = none:=by rw [Z0F,if_pos hb]
   refine Ev.neg (by simp) (Ev.step (fun _ => rfl) ?_)
   simp only [ZO.j1,e]
   exact Ev.pos trivial (Ev.now _)
  ·obtain ⟨p1,p2,p3,p4,p5,p6,-,-⟩:=readVar_true (readVar_res hb)
   have es:wrap64 (wrap64 ((s.size:Int) - (Zi s a).2.1) - 4) = s.size - (Zi s a).2.1 - 4:=by
    rw [Z9 (n:=(s.size:Int) - (Zi s a).2.1) (by omega) (by omega),Z9 (by omega) (by omega)]
   have e4:wrap64 ((Zi s a).2.1 + 4) = (Zi s a).2.1 + 4:=Z9 (by omega) (by omega)
   have eb:wrap64 ((Zi s a).2.1 + 4 + (Zi s a).1) = (Zi s a).2.1 + 4 + (Zi s a).1:=Z9 (by omega) (by omega)
   refine Ev.pos rfl (Ev.step (fun _ => rfl) ?_)
   simp only [ZO.j1,es,e4,eb]
   by_cases h4:(Zi s a).1 > (s.size:Int) - (Zi s a).2.1 - 4
   ·have e:Z0F s a = none:=by rw [Z0F,if_neg (by simp [hb]),if_pos h4]
    rw [e]
    exact Ev.pos (decide_eq_true h4) (Ev.now _)
   ·refine Ev.neg (by simp;omega) (Ev.pos (by omega) (Ev.pos (by omega) (Ev.pos (by omega) (Ev.bind (impl_Frame_ev _ (by rw [ByteArray.size_extract];omega)) (Ev.ite (fun h5 => Ev.pos (by omega) (Ev.pos (by omega) (Ev.ite (fun h6 => Ev.pos (by omega) ?_) (fun h6 => ?_)))) (fun h5 => ?_))))))
    ·have e:Z0F s a = some (s.extract ((Zi s a).2.1 + 4).toNat ((Zi s a).2.1 + 4 + (Zi s a).1).toNat,(Zi s a).2.1 + 4 + (Zi s a).1):=by
      rw [Z0F,if_neg (by simp [hb]),if_neg h4,if_pos ⟨h5,toList_inj.1 h6⟩]
     rw [e]
     exact ih _ _ (by omega) (by omega) (by simp only [List.length_append,List.length_singleton];omega) (by omega)
    ·have e:Z0F s a = none:=by rw [Z0F,if_neg (by simp [hb]),if_neg h4,if_neg (fun e => h6 (toList_inj.2 e.2))]
     rw [e];exact Ev.now _
    ·have e:Z0F s a = none:=by rw [Z0F,if_neg (by simp [hb]),if_neg h4,if_neg (fun e => h5 e.1)]
     rw [e];exact Ev.now _
theorem impl_Unframe_evB (s:ByteArray):Ev (fun k => ZO.f k s) (ZY s):=by
 unfold ZO.f ZY
 refine Ev.ite (fun hc => Ev.done ?_) (fun hc => ?_)
 ·rw [if_pos (show s.size > 20000 by omega)]
 ·rw [if_neg (show ¬ s.size > 20000 by omega)]
  exact impl_Unframe_loopB s (by omega) _ [] 0 (by omega) (by omega) (by simp) (by omega)
def piecesOf (rb:ByteArray→Int×List S162×Bool):Int→List ByteArray→List S113
 | _,[] => []
 | a,c::t => if (rb c).2.2 = true then (⟨⟨(rb c).1,(rb c).2.1⟩,c,a + ((frame c).1.size:Int) - (c.size:Int)⟩:S113)::piecesOf rb (a + ((frame c).1.size:Int)) t else []
theorem impl_batchesOf_loop (rb:ByteArray→Int×List S162×Bool) (hrb:∀ c,c.size≤9000→RB c (rb c)) (list:List ByteArray) (hl:list.length≤20000) (hc:∀ c∈list,c.size≤9000):∀ (rest:List ByteArray) (n:Nat) (a:Int) (acc:List S113),list.drop n = rest→acc.length = n→0≤a→a≤9009 * (n:Int) →
  To (fun k => ZT.l0 k acc a list (list.length:Int) (n:Int)) (fun r => r.1 = acc++piecesOf rb a rest):=by
 intro rest
 induction rest with
 | nil =>
  intro n a acc h ha h0 h1
  have:=ZA h
  refine To.step (fun _ => rfl) ?_
  simp only [ZT.l0]
  exact To.neg (by omega) (To.now (by simp [piecesOf]))
 | cons x r ih =>
  intro n a acc h ha h0 h1
  obtain ⟨h2,-,h3⟩:=Zg h
  have hm:=hc x (List.mem_of_mem_drop (h ▸ List.mem_cons_self))
  have hf:=frame_le8 x
  obtain ⟨-,q2,q3⟩:=hrb x hm
  refine To.step (fun _ => rfl) ?_
  simp only [ZT.l0,rdOf_drop h,Z4 (show n≤9223372036854775806 by omega)]
  refine To.pos (by omega) (To.pos (by omega) (To.pos (by omega) (To.bind (To.ev (P:=fun z => z = rb x) q2 rfl) (fun z ez => ?_))))
  subst ez
  rw [piecesOf]
  refine To.ite (fun c => ?_) (fun c => To.now (by rw [if_neg c];simp))
  rw [if_pos c]
  refine To.bind (To.ev (P:=fun z => z = frame x) (impl_Frame_ev x (by omega)) rfl) (fun z ez => ?_)
  subst ez
  rw [Z9 (n:=a + ((frame x).1.size:Int)) (by omega) (by omega),Z9 (n:=a + ((frame x).1.size:Int) - (x.size:Int)) (by omega) (by omega)]
  refine To.pos (by omega) (To.mono (ih (n + 1) (a + ((frame x).1.size:Int)) _ h3 (by simp [ha]) (by omega) (by omega)) (fun z hz => ?_))
  rw [hz];simp
theorem impl_batchesOf_to (rb:ByteArray→Int×List S162×Bool) (hrb:∀ c,c.size≤9000→RB c (rb c)) (s:ByteArray):To (fun k => ZT.f k s) (fun r => r.1 = piecesOf rb 0 (ZY s).1):=by
 unfold ZT.f
 obtain ⟨u1,u2⟩:=unframe_bounds s
 refine To.bind (To.ev (P:=fun z => z = ZY s) (impl_Unframe_evB s) rfl) (fun z ez => ?_)
 subst ez
 exact To.mono (impl_batchesOf_loop rb hrb _ u1 u2 _ 0 0 [] rfl rfl (by omega) (by omega)) (fun z hz => by rw [hz];simp)
theorem rdP_drop {xs:List S113} {n:Nat} {x:S113} {t:List S113} (h:xs.drop n = x::t):rd_T113 xs (n:Int) = x:=by
 unfold rd_T113
 rw [Int.toNat_natCast];exact (Zg h).2.1 _
def scanIn (seg:Int):List S113→List S145×List ByteArray×Int→List S145×List ByteArray×Int
 | [],r => r
 | p::t,r => scanIn seg t (r.1++spotsAt seg (p.f2 + ((Zv p.f0.f0.toNat).size:Int) + ((Zv p.f0.f1.length).size:Int)) p.f0.f1,r.2.1++[p.f1],mx r.2.2 p.f0.f0)
theorem scanIn_pieces (rb:ByteArray→Int×List S162×Bool) (seg:Int):∀ (l:List ByteArray) (a:Int) (r:List S145×List ByteArray×Int),scanIn seg (piecesOf rb a l) r = scanOn rb seg a l r
 | [],_,_ => rfl
 | c::t,a,r => by
  rw [piecesOf,scanOn]
  split
  ·rw [scanIn,scanIn_pieces rb seg t]
  ·rfl
theorem pieces_mem (rb:ByteArray→Int×List S162×Bool) (hrb:∀ c,c.size≤9000→((rb c).2.2 = true→batchOk (rb c).1 (rb c).2.1 = true)):∀ (l:List ByteArray) (a:Int),(∀ c∈l,c.size≤9000)→0≤a→(piecesOf rb a l).length≤l.length∧∀ p∈piecesOf rb a l,batchOk p.f0.f0 p.f0.f1 = true∧-9000≤p.f2∧p.f2≤a + 9009 * (l.length:Int)
 | [],_,_,_ => ⟨Nat.le_refl _,fun p hp => by cases hp⟩
 | c::t,a,h,h0 => by
  have hf:=frame_le8 c
  have hc:=h c List.mem_cons_self
  rw [piecesOf]
  split
  ·rename_i hk
   obtain ⟨i1,i2⟩:=pieces_mem rb hrb t (a + ((frame c).1.size:Int)) (fun y hy => h y (List.mem_cons_of_mem _ hy)) (by omega)
   refine ⟨by simp only [List.length_cons];omega,fun p hp => ?_⟩
   rcases List.mem_cons.1 hp with rfl | hp
   ·exact ⟨hrb c hc hk,by dsimp only;omega,by dsimp only;simp only [List.length_cons];omega⟩
   ·obtain ⟨j1,j2,j3⟩:=i2 p hp
    exact ⟨j1,j2,by simp only [List.length_cons];omega⟩
  ·exact ⟨by simp,fun p hp => by cases hp⟩
theorem impl_ScanSeg_loop (seg:Int) (ps:List S113) (hl:ps.length≤20000) (hp:∀ p∈ps,batchOk p.f0.f0 p.f0.f1 = true∧-9000≤p.f2∧p.f2≤1000000000):∀ (rest:List S113) (n:Nat) (sp:List S145) (tx:List ByteArray) (stamp:Int),ps.drop n = rest→sp.length≤60 * n→tx.length = n →
  Ev (fun k => Z18.l0 k seg sp tx stamp ps (ps.length:Int) (n:Int)) (scanIn seg rest (sp,tx,stamp)):=by
 intro rest
 induction rest with
 | nil =>
  intro n sp tx stamp h hs ht
  have:=ZA h
  refine Ev.step (fun _ => rfl) ?_
  simp only [Z18.l0]
  exact Ev.neg (by omega) (Ev.now _)
 | cons x r ih =>
  intro n sp tx stamp h hs ht
  obtain ⟨h2,-,h3⟩:=Zg h
  obtain ⟨m1,m2,m3⟩:=hp x (List.mem_of_mem_drop (h ▸ List.mem_cons_self))
  have b2:=(Z0Q m1).2.1
  refine Ev.step (fun _ => rfl) ?_
  simp only [Z18.l0,rdP_drop h,Z4 (show n≤9223372036854775806 by omega)]
  rw [scanIn]
  exact Ev.pos (by omega) (Ev.pos (by omega) (Ev.pos (by omega) (Ev.bind (impl_spotsOf_ev _ _ _ _ seg m1 (by omega) (by omega)) (Ev.pos (by rw [spotsAt_length];omega) (Ev.pos (by omega) (ih (n + 1) _ _ _ h3 (by rw [List.length_append,spotsAt_length];omega) (by simp [ht])))))))
theorem impl_ScanSeg_ev (rb:ByteArray→Int×List S162×Bool) (hrb:∀ c,c.size≤9000→RB c (rb c)) (s:ByteArray) (seg:Int):Ev (fun k => Z18.f k s seg) (scanOn rb seg 0 (ZY s).1 ([],[],-1)):=by
 obtain ⟨u1,u2⟩:=unframe_bounds s
 obtain ⟨i1,i2⟩:=pieces_mem rb (fun c hc => (hrb c hc).2.2) (ZY s).1 0 u2 (by omega)
 unfold Z18.f
 obtain ⟨z,hz,ez⟩:=impl_batchesOf_to rb hrb s
 refine Ev.bind hz ?_
 rw [ez,←scanIn_pieces rb]
 exact impl_ScanSeg_loop seg _ (by omega) (fun p hp => by have:=i2 p hp;exact ⟨this.1,this.2.1,by omega⟩) _ 0 [] [] (-1) rfl (by simp) rfl
theorem spec_l01Text_loop {l:List Int} (hl:l.length≤140737488351232) (N:Int) (hN:N≤5000):∀ (m n:Nat) (acc s:List Int) (i y:Int),5000 - n≤m→n≤5000→acc.length = n→Cu l s i →
  To (fun k => Z0R.l0 k N acc (n:Int) s i y) (fun r => r.1.size≤5000∧Cu l r.2.1 r.2.2.1):=by
 intro m
 induction m with
 | zero =>
  intro n acc s i y h1 h2 h3 hc
  refine To.step (fun _ => rfl) ?_
  simp only [Z0R.l0]
  exact To.neg (by omega) (To.now ⟨by rw [strOfNums_size];omega,hc⟩)
 | succ m ih =>
  intro n acc s i y h1 h2 h3 hc
  refine To.step (fun _ => rfl) ?_
  simp only [Z0R.l0,Z4 (show n≤9223372036854775806 by omega)]
  exact To.ite (fun c => To.bind (spec_l01Byte_to hl y hc) (fun r p => To.pos (by omega) (ih (n + 1) _ _ _ _ (by omega) (by omega) (by simp [h3]) p.2.2))) (fun _ => To.now ⟨by rw [strOfNums_size];omega,hc⟩)
theorem spec_l01Text_to {l:List Int} (hl:l.length≤140737488351232) {s:List Int} {i:Int} (y:Int) (h:Cu l s i) (n:Int):To (fun k => Z0R.f k s i y n) (fun r => r.1.size≤5000∧Cu l r.2.1 r.2.2.1):=by
 unfold Z0R.f
 exact To.ite (fun _ => spec_l01Text_loop hl 5000 (by omega) 5000 0 [] s i y (by omega) (by omega) rfl h) (fun c => spec_l01Text_loop hl n (by omega) 5000 0 [] s i y (by omega) (by omega) rfl h)
def layS (out:List S145) (s:S145):List S145 :=
 out.filter (fun x => lessK x.f0 s.f0)++(if s.f3 = -1 then [] else [s])++out.filter (fun x => lessK s.f0 x.f0)
theorem laySl (out:List S145) (s:S145):(layS out s).length≤out.length + 1:=by
 have h:∀ l:List S145,(l.filter fun x => lessK x.f0 s.f0).length + (l.filter fun x => lessK s.f0 x.f0).length≤l.length:=by
  intro l
  induction l with
  | nil => simp
  | cons x t ih =>
   have hn:¬ (lessK x.f0 s.f0 = true∧lessK s.f0 x.f0 = true):=fun e => by
    have:=less_trans e.1 e.2
    rw [less_irr] at this;cases this
   cases h1:lessK x.f0 s.f0 <;> cases h2:lessK s.f0 x.f0 <;> simp [h1,h2] <;> first | omega | exact absurd ⟨h1,h2⟩ hn
 have:=h out
 unfold layS
 split <;> simp <;> omega
theorem spec_l08More_l2 (l1 out:List S145) (n:Nat) (a:ByteArray) (b c d:Int) (ho:out.length≤4000000) (r:List S145):∀ (rest:List S145) (m:Nat) (acc:List S145),out.drop m = rest→acc.length + rest.length≤8388608 →
  Ev (fun k => Zd.l0 k l1 (acc++rest.filter fun x => lessK a x.f0) (wrap64 ((n:Int) + 1))) r→Ev (fun k => Zd.l2 k l1 out (n:Int) acc (m:Int) a b c d) r:=by
 intro rest
 induction rest with
 | nil =>
  intro m acc h hl hr
  have:=ZA h
  refine Ev.step (fun _ => rfl) ?_
  simp only [Zd.l2]
  refine Ev.neg (by omega) ?_
  simpa using hr
 | cons x t ih =>
  intro m acc h hl hr
  obtain ⟨h1,-,h3⟩:=Zg h
  rw [List.length_cons] at hl
  refine Ev.step (fun _ => rfl) ?_
  simp only [Zd.l2,rdT145_drop h,Z4 (show m≤9223372036854775806 by omega)]
  refine Ev.pos (by omega) (Ev.pos (by omega) (Ev.ite (fun hc => Ev.pos (by omega) (ih (m + 1) _ h3 (by simp;omega) ?_)) (fun hc => ih (m + 1) _ h3 (by omega) ?_)))
  ·rw [List.filter_cons_of_pos (by exact hc)] at hr
   simpa using hr
  ·rw [List.filter_cons_of_neg (by exact hc)] at hr
   exact hr
theorem spec_l08More_l1 (l1 out:List S145) (n:Nat) (s:S145) (ho:out.length≤4000000) (r:List S145) (hr:Ev (fun k => Zd.l0 k l1 (layS out s) (wrap64 ((n:Int) + 1))) r):∀ (rest:List S145) (m:Nat) (acc:List S145),out.drop m = rest→acc.length≤m→acc++rest.filter (fun x => lessK x.f0 s.f0) = out.filter (fun x => lessK x.f0 s.f0) →
  Ev (fun k => Zd.l1 k l1 out (n:Int) acc (m:Int) s.f0 s.f1 s.f2 s.f3) r:=by
 intro rest
 induction rest with
 | nil =>
  intro m acc h hl he
  have:=ZA h
  rw [List.filter_nil,List.append_nil] at he
  have fin:∀ acc':List S145,acc' = acc++(if s.f3 = -1 then [] else [s])→Ev (fun k => Zd.j2 k l1 out (n:Int) acc' s.f0 s.f1 s.f2 s.f3) r:=by
   rintro acc' rfl
   refine Ev.step (fun _ => rfl) ?_
   simp only [Zd.j2]
   have hal:acc.length≤out.length:=by rw [he];exact List.length_filter_le _ _
   refine spec_l08More_l2 l1 out n s.f0 s.f1 s.f2 s.f3 ho r out 0 _ rfl (by simp;split <;> simp <;> omega) ?_
   rw [he]
   exact hr
  have hal:acc.length≤out.length:=by rw [he];exact List.length_filter_le _ _
  refine Ev.step (fun _ => rfl) ?_
  simp only [Zd.l1]
  refine Ev.neg (by omega) (Ev.ite (fun hc => fin _ (by rw [if_pos hc,List.append_nil])) (fun hc => Ev.pos (by omega) (fin _ (by rw [if_neg hc]))))
 | cons x t ih =>
  intro m acc h hl he
  obtain ⟨h1,-,h3⟩:=Zg h
  refine Ev.step (fun _ => rfl) ?_
  simp only [Zd.l1,rdT145_drop h,Z4 (show m≤9223372036854775806 by omega)]
  refine Ev.pos (by omega) (Ev.pos (by omega) (Ev.ite (fun hc => Ev.pos (by omega) (ih (m + 1) _ h3 (by simp;omega) ?_)) (fun hc => ih (m + 1) _ h3 (by omega) ?_)))
  ·rw [List.filter_cons_of_pos (by exact hc)] at he
   rw [←he];simp
  ·rw [List.filter_cons_of_neg (by exact hc)] at he
   exact he
theorem spec_l08More_l0 (l1:List S145) (hl1:l1.length≤1048576):∀ (rest:List S145) (n:Nat) (out:List S145),l1.drop n = rest→out.length + rest.length≤4000000→Ev (fun k => Zd.l0 k l1 out (n:Int)) (rest.foldl layS out):=by
 intro rest
 induction rest with
 | nil =>
  intro n out h ho
  have:=ZA h
  refine Ev.step (fun _ => rfl) ?_
  simp only [Zd.l0]
  exact Ev.neg (by omega) (Ev.now _)
 | cons x t ih =>
  intro n out h ho
  obtain ⟨h1,-,h3⟩:=Zg h
  rw [List.length_cons] at ho
  refine Ev.step (fun _ => rfl) ?_
  simp only [Zd.l0,rdT145_drop h]
  have:=laySl out x
  refine Ev.pos (by omega) (Ev.pos (by omega) (spec_l08More_l1 l1 out n x (by omega) _ ?_ out 0 [] rfl (by simp) (by simp)))
  rw [Z4 (show n≤9223372036854775806 by omega)]
  exact ih (n + 1) (layS out x) h3 (by omega)
def keysUp (l:List S145):Prop:=l.Pairwise fun x y => lessK x.f0 y.f0 = true
theorem dirIn_up:∀ {l:List S145} {p:Option ByteArray},dirIn p l = true→keysUp l∧∀ q,p = some q→∀ x∈l,lessK q x.f0 = true
 | [],p,_ => ⟨List.Pairwise.nil,fun _ _ x hx => by cases hx⟩
 | y::t,p,h => by
  rw [dirIn,Bool.and_eq_true,Bool.and_eq_true] at h
  obtain ⟨h1,h2⟩:=dirIn_up h.2.2
  refine ⟨List.pairwise_cons.mpr ⟨fun x hx => h2 _ rfl x hx,h1⟩,?_⟩
  rintro q rfl x hx
  rcases List.mem_cons.1 hx with rfl | hx
  ·exact h.2.1
  ·exact less_trans h.2.1 (h2 _ rfl x hx)
theorem keysUp_lay {l:List S145} (h:keysUp l) (s:S145):keysUp (layS l s):=by
 unfold layS keysUp
 have h1:=List.Pairwise.filter (fun x:S145 => lessK x.f0 s.f0) h
 have h2:=List.Pairwise.filter (fun x:S145 => lessK s.f0 x.f0) h
 have m1:∀ x∈l.filter (fun x => lessK x.f0 s.f0),lessK x.f0 s.f0 = true:=fun x hx => (List.mem_filter.1 hx).2
 have m2:∀ x∈l.filter (fun x => lessK s.f0 x.f0),lessK s.f0 x.f0 = true:=fun x hx => (List.mem_filter.1 hx).2
 have m3:∀ x∈(if s.f3 = -1 then [] else [s]),x = s:=fun x hx => by split at hx <;> simp at hx;exact hx
 rw [List.pairwise_append,List.pairwise_append]
 refine ⟨⟨h1,by split <;> simp,fun x hx y hy => ?_⟩,h2,fun x hx y hy => ?_⟩
 ·rw [m3 y hy];exact m1 x hx
 ·rcases List.mem_append.1 hx with hx | hx
  ·exact less_trans (m1 x hx) (m2 y hy)
  ·rw [m3 x hx];exact m2 y hy
def dirMore (l0 l1:List S145):List S145×Bool:=if dirOk l0 = true then (if dirOk (l1.foldl layS l0) = true then (l1.foldl layS l0,true) else ([],false)) else ([],false)
theorem lay_len (l1:List S145):∀ (l0:List S145),(l1.foldl layS l0).length≤l0.length + l1.length:=by
 induction l1 with
 | nil => simp
 | cons x t ih =>
  intro l0
  have:=ih (layS l0 x)
  have:=laySl l0 x
  rw [List.foldl_cons,List.length_cons]
  omega
def Z0Y (key:ByteArray) (x:S145):Int:=Lib.compareBytes x.f0.data.toList key.data.toList
theorem key_lt (key:ByteArray) (x:S145):Z0Y key x < 0↔lessK x.f0 key = true:=by unfold Z0Y lessK;rw [←ByteArray.toList_eq,←ByteArray.toList_eq];exact (cmp_less _ _).1
theorem key_eq (key:ByteArray) (x:S145):Z0Y key x = 0↔x.f0.toList = key.toList:=by unfold Z0Y;rw [←ByteArray.toList_eq,←ByteArray.toList_eq];exact (cmp_less _ _).2
theorem ahead_cons (key:ByteArray) (x:S145) (t:List S145):Z01 (Z0Y key) (x::t) = Z01 (Z0Y key) t + (if lessK x.f0 key = true then 1 else 0):=by
 unfold Z01
 rw [List.countP_cons]
 congr 1
 by_cases h:lessK x.f0 key = true
 ·rw [if_pos h,if_pos (by rw [decide_eq_true_iff,key_lt];exact h)]
 ·rw [if_neg h,if_neg (by rw [decide_eq_true_iff,key_lt];exact h)]
theorem up_none {key:ByteArray} {x:S145} {t:List S145} (h:keysUp (x::t)) (hx:¬ lessK x.f0 key = true):∀ y∈t,¬ lessK y.f0 key = true:=fun y hy e => hx (less_trans ((List.pairwise_cons.mp h).1 y hy) e)
theorem ahead_none {key:ByteArray} {t:List S145} (h:∀ y∈t,¬ lessK y.f0 key = true):Z01 (Z0Y key) t = 0:=by
 unfold Z01
 rw [List.countP_eq_zero]
 intro y hy
 rw [decide_eq_true_iff,key_lt]
 exact h y hy
theorem ahead_take (key:ByteArray):∀ (l:List S145),keysUp l→l.take (Z01 (Z0Y key) l) = l.filter (fun x => lessK x.f0 key)∧l.drop (Z01 (Z0Y key) l) = l.filter (fun x => !lessK x.f0 key)
 | [],_ => by simp
 | x::t,h => by
  by_cases hx:lessK x.f0 key = true
  ·obtain ⟨h1,h2⟩:=ahead_take key t (List.pairwise_cons.mp h).2
   rw [ahead_cons,if_pos hx,List.take_succ_cons,List.drop_succ_cons,List.filter_cons_of_pos (by exact hx),List.filter_cons_of_neg (by simp [hx]),h1,h2]
   exact ⟨rfl,rfl⟩
  ·have hn:=up_none h hx
   rw [ahead_cons,if_neg hx,ahead_none hn]
   refine ⟨?_,?_⟩
   ·rw [List.filter_eq_nil_iff.mpr (fun y hy => by rcases List.mem_cons.1 hy with rfl | hy;exact hx;exact hn y hy)];rfl
   ·rw [List.filter_eq_self.mpr (fun y hy => by rcases List.mem_cons.1 hy with rfl | hy;(simp [hx]);(simp [hn y hy]))];rfl
theorem keyStands_at (key:ByteArray) {l:List S145} (h:keysUp l) :
  (stands (Z0Y key) l = true→Z01 (Z0Y key) l < l.length∧l.drop (Z01 (Z0Y key) l + 1) = l.filter (fun x => lessK key x.f0)) ∧
  (stands (Z0Y key) l = false→l.drop (Z01 (Z0Y key) l) = l.filter (fun x => lessK key x.f0)):=by
 have hd:=(ahead_take key l h).2
 have hf:∀ {t:List S145},(∀ x∈t,lessK key x.f0 = true)→∀ {a:List S145},l = a++t→(∀ x∈a,¬ lessK key x.f0 = true)→l.filter (fun x => lessK key x.f0) = t:=by
  intro t ht a hl ha
  rw [hl,List.filter_append,List.filter_eq_nil_iff.mpr (fun x hx => ha x hx),List.filter_eq_self.mpr (fun x hx => ht x hx),List.nil_append]
 have ht:∀ x∈l.take (Z01 (Z0Y key) l),¬ lessK key x.f0 = true:=by
  intro x hx e
  rw [(ahead_take key l h).1] at hx
  have:=less_trans e (List.mem_filter.1 hx).2
  rw [less_irr] at this;cases this
 have hup:keysUp (l.drop (Z01 (Z0Y key) l)):=List.Pairwise.sublist (List.drop_sublist _ _) h
 have hge:∀ x∈l.drop (Z01 (Z0Y key) l),¬ lessK x.f0 key = true:=by
  intro x hx
  rw [hd] at hx
  simpa using (List.mem_filter.1 hx).2
 unfold stands
 rw [←List.head?_drop]
 cases hq:l.drop (Z01 (Z0Y key) l) with
 | nil =>
  refine ⟨fun e => by simp at e,fun _ => ?_⟩
  exact (hf (t:=[]) (by simp) (a:=l.take (Z01 (Z0Y key) l)) (by rw [←hq,List.take_append_drop]) ht).symm
 | cons m t =>
  rw [hq] at hup hge
  have hlt:Z01 (Z0Y key) l < l.length:=by
   rcases Nat.lt_or_ge (Z01 (Z0Y key) l) l.length with h1 | h1
   ·exact h1
   ·rw [List.drop_eq_nil_of_le h1] at hq;cases hq
  have hl:l = l.take (Z01 (Z0Y key) l)++(m::t):=by rw [←hq,List.take_append_drop]
  have ht1:l.drop (Z01 (Z0Y key) l + 1) = t:=by rw [←List.drop_drop,hq];rfl
  simp only [List.head?_cons,decide_eq_true_iff,decide_eq_false_iff_not,key_eq]
  refine ⟨fun e => ⟨hlt,?_⟩,fun e => ?_⟩
  ·rw [ht1]
   refine (hf (t:=t) (fun x hx => ?_) (a:=l.take (Z01 (Z0Y key) l)++[m]) (by rw [List.append_assoc];exact hl) (fun x hx => ?_)).symm
   ·have:=(List.pairwise_cons.mp hup).1 x hx
    unfold lessK at this ⊢
    rw [←e];exact this
   ·rcases List.mem_append.1 hx with hx | hx
    ·exact ht x hx
    ·rw [List.mem_singleton] at hx
     unfold lessK
     rw [hx,e,less_irr];simp
  ·refine (hf (t:=m::t) (fun x hx => ?_) hl ht).symm
   have hm:lessK key m.f0 = true:=by
    cases hc:lessK key m.f0
    ·exact absurd (less_tri (by simpa [lessK] using hge m List.mem_cons_self) hc) e
    ·rfl
   rcases List.mem_cons.1 hx with rfl | hx
   ·exact hm
   ·exact less_trans hm ((List.pairwise_cons.mp hup).1 x hx)
theorem slices_BinarySearchFunc_impl_Spot_impl_Spot_string_loop (l:List S145) (hl:l.length≤3000000) (h:keysUp l) (key:ByteArray):∀ (m lo hi:Nat),lo≤hi→hi≤l.length→hi - lo≤m→(∀ t x,t < lo→l[t]? = some x→Z0Y key x < 0)→(∀ t x,hi≤t→l[t]? = some x→0≤Z0Y key x) →
  Ev (fun k => Z1.l0 k l key (l.length:Int) (lo:Int) (hi:Int)) (((Z01 (Z0Y key) l:Nat):Int),stands (Z0Y key) l):=by
 have hget:∀ n,n < l.length→l[n]? = some (Z8 l (n:Int)):=fun n hn => by unfold Z8;rw [Int.toNat_natCast,List.getD_eq_getElem?_getD,List.getElem?_eq_getElem hn];rfl
 have hmono:∀ (i j:Nat) (x y:S145),i≤j→l[i]? = some x→l[j]? = some y→lessK x.f0 y.f0 = true∨x = y:=fun i j x y hij hx hy => by
  obtain ⟨i1,i2⟩:=List.getElem?_eq_some_iff.1 hx
  obtain ⟨j1,j2⟩:=List.getElem?_eq_some_iff.1 hy
  rcases Nat.lt_or_eq_of_le hij with hlt | rfl
  ·left
   have:=List.pairwise_iff_getElem.1 h i j i1 j1 hlt
   rwa [i2,j2] at this
  ·right;rw [←i2,←j2]
 have fin:∀ n:Nat,n≤l.length→(∀ t x,t < n→l[t]? = some x→Z0Y key x < 0)→(∀ t x,n≤t→l[t]? = some x→0≤Z0Y key x)→Ev (fun k => Z1.l0 k l key (l.length:Int) (n:Int) (n:Int)) (((Z01 (Z0Y key) l:Nat):Int),stands (Z0Y key) l):=fun n hn h1 h2 => by
  have ea:=aheadN_eq (Z0Y key) l n hn h1 h2
  refine Ev.step (fun _ => rfl) ?_
  simp only [Z1.l0]
  refine Ev.neg (by omega) ?_
  unfold stands
  rw [ea]
  by_cases hc:n < l.length
  ·rw [hget n hc]
   exact Ev.pos (by omega) (Ev.pos (by omega) (Ev.pos (by omega) (Ev.call (a:=Z0Y key (Z8 l (n:Int))) rfl (Ev.done rfl))))
  ·rw [List.getElem?_eq_none (by omega)]
   exact Ev.neg (by omega) (Ev.now _)
 intro m
 induction m with
 | zero =>
  intro lo hi h0 h1 h2 h3 h4
  obtain rfl:lo = hi:=by omega
  exact fin lo h1 h3 h4
 | succ m ih =>
  intro lo hi h0 h1 h2 h3 h4
  by_cases hc:lo < hi
  ·have em:wrap64 (((wrap64 ((lo:Int) + (hi:Int))) % 18446744073709551616) / 2) = (((lo + hi) / 2:Nat):Int):=by rw [Z9 (n:=(lo:Int) + (hi:Int)) (by omega) (by omega),Z9 (by omega) (by omega)];omega
   refine Ev.step (fun _ => rfl) ?_
   simp only [Z1.l0,em]
   generalize hn:(lo + hi) / 2 = n
   have hn1:lo≤n:=by omega
   have hn2:n < hi:=by omega
   refine Ev.pos (by omega) (Ev.pos (by omega) (Ev.pos (by omega) (Ev.call (a:=Z0Y key (Z8 l (n:Int))) rfl (Ev.ite (fun hk => ?_) (fun hk => ?_)))))
   ·rw [Z4 (show n≤9223372036854775806 by omega)]
    refine ih (n + 1) hi (by omega) h1 (by omega) (fun t x ht hx => ?_) h4
    rcases hmono t n x _ (by omega) hx (hget n (by omega)) with hm | rfl
    ·rw [key_lt] at hk ⊢;exact lessK_trans hm hk
    ·exact hk
   ·refine ih lo n (by omega) (by omega) (by omega) h3 (fun t x ht hx => ?_)
    rcases hmono n t _ x ht (hget n (by omega)) hx with hm | rfl
    ·refine Int.not_lt.1 fun hx' => hk ?_
     rw [key_lt] at hx' ⊢;exact lessK_trans hm hx'
    ·exact Int.not_lt.1 hk
  ·obtain rfl:lo = hi:=by omega
   exact fin lo h1 h3 h4
theorem slices_BinarySearchFunc_impl_Spot_impl_Spot_string_ev (l:List S145) (hl:l.length≤3000000) (h:keysUp l) (key:ByteArray):Ev (fun k => Z1.f k l key) (((Z01 (Z0Y key) l:Nat):Int),stands (Z0Y key) l):=by
 unfold Z1.f
 exact slices_BinarySearchFunc_impl_Spot_impl_Spot_string_loop l hl h key l.length 0 l.length (by omega) (by omega) (by omega) (fun t x ht => absurd ht (Nat.not_lt_zero _)) (fun t x ht hx => by have:=(List.getElem?_eq_some_iff.1 hx).1;omega)
theorem del_lay {l:List S145} (h:keysUp l) (s:S145) (hd:s.f3 = -1) (hs:stands (Z0Y s.f0) l = true):Z0c.f l ((Z01 (Z0Y s.f0) l:Nat):Int) (((Z01 (Z0Y s.f0) l + 1:Nat)):Int) = some (layS l s):=by
 obtain ⟨h1,-⟩:=keyStands_at s.f0 h
 have ht:=(ahead_take s.f0 l h).1
 unfold Z0c.f delO layS
 rw [if_pos (by omega),if_pos (by omega),if_pos (by have:=(h1 hs).1;omega),Int.toNat_natCast,ht,(h1 hs).2,if_pos hd,List.append_nil]
theorem same_lay {l:List S145} (h:keysUp l) (s:S145) (hd:s.f3 = -1) (hs:stands (Z0Y s.f0) l = false):l = layS l s:=by
 obtain ⟨-,h2⟩:=keyStands_at s.f0 h
 have ht:=(ahead_take s.f0 l h).1
 unfold layS
 rw [if_pos hd,List.append_nil,←ht,←h2 hs,List.take_append_drop]
theorem set_lay {l:List S145} (h:keysUp l) (s:S145) (hd:¬ s.f3 = -1) (hs:stands (Z0Y s.f0) l = true):l.set (Z01 (Z0Y s.f0) l) s = layS l s:=by
 obtain ⟨h1,-⟩:=keyStands_at s.f0 h
 have ht:=(ahead_take s.f0 l h).1
 unfold layS
 rw [if_neg hd,List.set_eq_take_append_cons_drop,if_pos (h1 hs).1,ht,(h1 hs).2];simp
theorem ins_lay {l:List S145} (h:keysUp l) (hl:l.length≤3000000) (s:S145) (hd:¬ s.f3 = -1) (hs:stands (Z0Y s.f0) l = false):ZW.f l ((Z01 (Z0Y s.f0) l:Nat):Int) [s] = some (layS l s,[s]):=by
 obtain ⟨-,h2⟩:=keyStands_at s.f0 h
 have ht:=(ahead_take s.f0 l h).1
 have ha:=aheadN_le (Z0Y s.f0) l
 unfold ZW.f insO layS
 dsimp only
 rw [if_pos (by omega),if_pos (by omega),if_pos (by omega),Int.toNat_natCast,ht,h2 hs,if_neg hd]
 simp
theorem impl_DirMore_loop (l1:List S145) (hl1:l1.length≤3000000) (r:List S145×Bool):∀ (rest:List S145) (n:Nat) (out:List S145),l1.drop n = rest→keysUp out→out.length + rest.length≤3000000→Ev (fun k => (Z1b.f k (rest.foldl layS out)).bind fun t => if t = true then some (rest.foldl layS out,true) else some ([],false)) r →
  Ev (fun k => Z0k.l0 k out l1 (l1.length:Int) (n:Int)) r:=by
 intro rest
 induction rest with
 | nil =>
  intro n out h _ _ hr
  have:=ZA h
  refine Ev.step (fun _ => rfl) ?_
  simp only [Z0k.l0]
  exact Ev.neg (by omega) hr
 | cons x t ih =>
  intro n out h hu ho hr
  obtain ⟨h1,-,h3⟩:=Zg h
  rw [List.length_cons] at ho
  have hll:=laySl out x
  have ih:=ih (n + 1) (layS out x) h3 (keysUp_lay hu x) (by omega) (by rw [List.foldl_cons] at hr;exact hr)
  have ha:=aheadN_le (Z0Y x.f0) out
  refine Ev.step (fun _ => rfl) ?_
  simp only [Z0k.l0,rdT145_drop h,Z4 (show n≤9223372036854775806 by omega)]
  refine Ev.pos (by omega) (Ev.pos (by omega) (Ev.pos (by omega) (Ev.bind (slices_BinarySearchFunc_impl_Spot_impl_Spot_string_ev out (by omega) hu x.f0) ?_)))
  dsimp only
  rw [Z4 (show Z01 (Z0Y x.f0) out≤9223372036854775806 by omega),Int.toNat_natCast]
  cases hs:stands (Z0Y x.f0) out
  ·refine Ev.ite (fun hd => Ev.neg (by simp) (Ev.pos hd ?_)) (fun hd => Ev.neg hd (Ev.neg (by simp) ?_))
   ·rw [←same_lay hu x hd hs] at ih;exact ih
   ·exact Ev.call (ins_lay hu (by omega) x hd hs) ih
  ·have h4:=((keyStands_at x.f0 hu).1 hs).1
   refine Ev.ite (fun hd => Ev.pos rfl (Ev.call (del_lay hu x hd hs) ih)) (fun hd => Ev.neg hd (Ev.pos rfl (Ev.pos (by omega) (Ev.pos (by omega) ?_))))
   rw [←set_lay hu x hd hs] at ih;exact ih
theorem impl_DirMore_ev (l0 l1:List S145) (h0:l0.length + l1.length≤3000000):Ev (fun k => Z0k.f k l0 l1) (dirMore l0 l1):=by
 unfold Z0k.f dirMore
 refine Ev.bind (impl_DirOk_ev l0 (by omega)) ?_
 have:=lay_len l1 l0
 cases hd:dirOk l0
 ·exact Ev.neg (by simp) (Ev.done (by simp))
 ·have hup:keysUp l0:=by unfold dirOk at hd;rw [Bool.and_eq_true] at hd;exact (dirIn_up hd.2).1
  refine Ev.pos rfl (Ev.pos (by omega) (impl_DirMore_loop l1 (by omega) _ l1 0 ([]++l0) rfl hup (by rw [List.nil_append];omega) ?_))
  rw [List.nil_append]
  refine Ev.bind (impl_DirOk_ev _ (by omega)) ?_
  cases hr:dirOk (l1.foldl layS l0)
  ·exact Ev.neg (by simp) (Ev.done (by simp))
  ·exact Ev.pos rfl (Ev.done (by simp))
def manOk (segs:List Int) (next base bt:Int) (conf:List Int):Bool:=inR segs.length 1 8 && (inR next 0 1000 && (rise 0 (next - 1) none segs && (inR base 0 100000 && (inR bt 0 100000 && confOk conf))))
theorem spec_ManifestOk_ev (segs:List Int) (next base bt:Int) (conf:List Int) (hs:segs.length≤9223372036854775806) (hc:conf.length≤9223372036854775806):Ev (fun k => spec_ManifestOk.f k segs next base bt conf) (manOk segs next base bt conf):=by
 unfold spec_ManifestOk.f manOk
 refine Ev.call (Z0u _ _ _) ?_
 cases h1:inR segs.length 1 8
 ·exact Ev.neg (by simp) (Ev.done (by simp))
 refine Ev.pos rfl (Ev.call (Z0u _ _ _) ?_)
 cases h2:inR next 0 1000
 ·exact Ev.neg (by simp) (Ev.done (by simp))
 have h2':=Zu.1 h2
 rw [Z9 (by omega) (by omega)]
 refine Ev.pos rfl (Ev.bind (spec_l07Rise_ev segs 0 (next - 1) hs) ?_)
 cases h3:rise 0 (next - 1) none segs
 ·exact Ev.neg (by simp) (Ev.done (by simp))
 refine Ev.pos rfl (Ev.call (Z0u _ _ _) ?_)
 cases h4:inR base 0 100000
 ·exact Ev.neg (by simp) (Ev.done (by simp))
 refine Ev.pos rfl (Ev.call (Z0u _ _ _) ?_)
 cases h5:inR bt 0 100000
 ·exact Ev.neg (by simp) (Ev.done (by simp))
 exact Ev.pos rfl (Ev.bind (spec_ConfOk_ev conf hc) (Ev.done (by simp)))
def manNums (segs:List Int) (next base bt:Int) (conf:List Int):List Int:=(segs.length:Int)::(segs++(next::base::bt::(conf.length:Int)::conf))
def Z0N (segs:List Int) (next base bt:Int) (conf:List Int):ByteArray×Bool :=
 if manOk segs next base bt conf = true then sealT (strOfNums ((manNums segs next base bt conf).flatMap fun n => varL n.toNat)) else (⟨#[]⟩,false)
theorem Z0b {segs:List Int} {next base bt:Int} {conf:List Int} (h:manOk segs next base bt conf = true) :
  (1≤segs.length∧segs.length≤8)∧(0≤next∧next≤1000)∧(0≤base∧base≤100000)∧(0≤bt∧bt≤100000)∧(1≤conf.length∧conf.length≤4)∧(∀ x∈segs,0≤x∧x≤999)∧(∀ x∈conf,1≤x∧x≤4):=by
 simp only [manOk,Bool.and_eq_true] at h
 obtain ⟨h1,h2,h3,h4,h5,h6⟩:=h
 have h1:=Zu.1 h1;have h2:=Zu.1 h2;have h4:=Zu.1 h4;have h5:=Zu.1 h5
 refine ⟨by omega,h2,h4,h5,confOk_len h6,?_,confOk_mem h6⟩
 have rm:∀ (l:List Int) (p:Option Int),rise 0 (next - 1) p l = true→∀ x∈l,0≤x∧x≤999:=by
  intro l
  induction l with
  | nil => intro p _ x hx;cases hx
  | cons y t ih =>
   intro p hp x hx
   have hy:inR y 0 (next - 1) = true∧rise 0 (next - 1) (some y) t = true:=by
    cases p <;> simp only [rise,Bool.and_eq_true] at hp
    ·exact hp
    ·exact ⟨hp.1,hp.2.2⟩
   rcases List.mem_cons.1 hx with rfl | hx
   ·have:=Zu.1 hy.1;omega
   ·exact ih _ hy.2 x hx
 exact rm segs none h3
theorem spec_ManifestText_loop1 (segs:List Int) (next base bt:Int) (conf:List Int) (hc:conf.length≤1000):∀ (rest:List Int) (n:Nat) (a:List Int),conf.drop n = rest→(∀ x∈rest,0≤x∧x≤1000000)→a.length + 5 * rest.length≤1000000 →
  Ev (fun k => Zf.l1 k (strOfNums a) (n:Int) segs next base bt conf) (sealT (strOfNums (a++rest.flatMap fun n => varL n.toNat))):=by
 intro rest
 induction rest with
 | nil =>
  intro n a h _ ha
  have:=ZA h
  refine Ev.step (fun _ => rfl) ?_
  simp only [Zf.l1]
  exact Ev.neg (by omega) (Ev.bind (spec_Sealed_ev _ (by rw [strOfNums_size];omega)) (Ev.done (by simp)))
 | cons x t ih =>
  intro n a h hm ha
  obtain ⟨h1,-,h3⟩:=Zg h
  have hx:=hm x List.mem_cons_self
  have hv:=varL_len (show x.toNat≤34359738367 by omega)
  rw [List.length_cons] at ha
  refine Ev.step (fun _ => rfl) ?_
  simp only [Zf.l1,drop_rd h,Z4 (show n≤9223372036854775806 by omega)]
  refine Ev.pos (by omega) (Ev.pos (by omega) (Ev.bind (spec_l01Var_ev x (by omega) (by omega)) ?_))
  simp only [Zv,←strOfNums_append,strOfNums_size]
  exact Ev.pos (by omega) (Ev.eq (ih (n + 1) (a++varL x.toNat) h3 (fun y hy => hm y (List.mem_cons_of_mem _ hy)) (by rw [List.length_append];omega)) (by simp))
theorem spec_ManifestText_loop0 (segs:List Int) (next base bt:Int) (conf:List Int) (hs:segs.length≤1000) (hn:0≤next∧next≤1000000) (hb:0≤base∧base≤1000000) (ht:0≤bt∧bt≤1000000) (hc:conf.length≤1000) (hm1:∀ x∈conf,0≤x∧x≤1000000):∀ (rest:List Int) (n:Nat) (a:List Int),segs.drop n = rest→(∀ x∈rest,0≤x∧x≤1000000)→a.length + 5 * rest.length≤100000 →
  Ev (fun k => Zf.l0 k (strOfNums a) (n:Int) segs next base bt conf) (sealT (strOfNums (a++(rest++(next::base::bt::(conf.length:Int)::conf)).flatMap fun n => varL n.toNat))):=by
 intro rest
 induction rest with
 | nil =>
  intro n a h _ ha
  have:=ZA h
  have v1:=varL_len (show next.toNat≤34359738367 by omega)
  have v2:=varL_len (show base.toNat≤34359738367 by omega)
  have v3:=varL_len (show bt.toNat≤34359738367 by omega)
  have v4:=varL_len (show conf.length≤34359738367 by omega)
  rw [List.length_nil] at ha
  refine Ev.step (fun _ => rfl) ?_
  simp only [Zf.l0]
  refine Ev.neg (by omega) (Ev.bind (spec_l01Var_ev next (by omega) (by omega)) ?_)
  simp only [Zv,←strOfNums_append,strOfNums_size]
  refine Ev.pos (by omega) (Ev.bind (spec_l01Var_ev base (by omega) (by omega)) ?_)
  simp only [Zv,←strOfNums_append,strOfNums_size]
  refine Ev.pos (by rw [List.length_append];omega) (Ev.bind (spec_l01Var_ev bt (by omega) (by omega)) ?_)
  simp only [Zv,←strOfNums_append,strOfNums_size]
  refine Ev.pos (by rw [List.length_append,List.length_append];omega) (Ev.bind (spec_l01Var_nat conf.length (by omega)) ?_)
  simp only [Zv,←strOfNums_append,strOfNums_size]
  refine Ev.pos (by rw [List.length_append,List.length_append,List.length_append];omega) (Ev.eq (spec_ManifestText_loop1 segs next base bt conf hc conf 0 _ rfl hm1 (by simp only [List.length_append];omega)) ?_)
  simp
 | cons x t ih =>
  intro n a h hm ha
  obtain ⟨h1,-,h3⟩:=Zg h
  have hx:=hm x List.mem_cons_self
  have hv:=varL_len (show x.toNat≤34359738367 by omega)
  rw [List.length_cons] at ha
  refine Ev.step (fun _ => rfl) ?_
  simp only [Zf.l0,drop_rd h,Z4 (show n≤9223372036854775806 by omega)]
  refine Ev.pos (by omega) (Ev.pos (by omega) (Ev.bind (spec_l01Var_ev x (by omega) (by omega)) ?_))
  simp only [Zv,←strOfNums_append,strOfNums_size]
  exact Ev.pos (by omega) (Ev.eq (ih (n + 1) (a++varL x.toNat) h3 (fun y hy => hm y (List.mem_cons_of_mem _ hy)) (by rw [List.length_append];omega)) (by simp))
theorem Z0E (segs:List Int) (next base bt:Int) (conf:List Int) (hs:segs.length≤9223372036854775806) (hc:conf.length≤9223372036854775806):Ev (fun k => Zf.f k segs next base bt conf) (Z0N segs next base bt conf):=by
 unfold Zf.f Z0N
 refine Ev.bind (spec_ManifestOk_ev segs next base bt conf hs hc) ?_
 cases h:manOk segs next base bt conf
 ·exact Ev.neg (by simp) (Ev.done (by simp))
 ·obtain ⟨b1,b2,b3,b4,b5,b6,b7⟩:=Z0b h
  have v0:=varL_len (show segs.length≤34359738367 by omega)
  refine Ev.pos rfl (Ev.bind (spec_l01Var_nat segs.length (by omega)) ?_)
  exact Ev.eq (spec_ManifestText_loop0 segs next base bt conf (by omega) (by omega) (by omega) (by omega) (by omega) (fun x hx => by have:=b7 x hx;omega) segs 0 _ rfl (fun x hx => by have:=b6 x hx;omega) (by omega)) (by simp [manNums])
theorem spec_Decimal_zero:Ev (fun k => Z0x.f k 0) (⟨#[48]⟩:ByteArray):=Ev.pos rfl (Ev.now _)
theorem spec_l01Figure_dig (n:Nat):spec_l01Figure.f (Int.tmod (n:Int) 10) = some (((48 + n % 10:Nat)):Int):=by
 unfold spec_l01Figure.f
 rw [if_pos (by rw [Int.tmod_eq_emod_of_nonneg (by omega)];omega),tmod10]
theorem strOfNums_one (n:Nat) (h:n < 256):strOfNums [(n:Int)] = ⟨#[UInt8.ofNat n]⟩:=by
 simp [strOfNums]
theorem digits_big {n:Nat} (h:¬ n < 10):Lib.decDigits n = Lib.decDigits (n / 10)++[UInt8.ofNat (48 + n % 10)]:=by
 rw [Lib.decDigits,dif_neg h]
theorem digits_small {n:Nat} (h:n < 10):Lib.decDigits n = [UInt8.ofNat (48 + n)]:=by
 rw [Lib.decDigits,dif_pos h]
def digT (n:Nat):ByteArray:=⟨(Lib.decDigits n).toArray⟩
theorem digT_big {n:Nat} (h:¬ n < 10) (a:ByteArray):digT n++a = digT (n / 10)++(strOfNums [((48 + n % 10:Nat):Int)]++a):=by
 rw [strOfNums_one _ (by omega),digT,digits_big h,digT,←ByteArray.append_assoc]
 congr 1
theorem digT_small {n:Nat} (h:n < 10):digT n = strOfNums [((48 + n % 10:Nat):Int)]:=by
 rw [strOfNums_one _ (by omega),digT,digits_small h,Nat.mod_eq_of_lt h]
theorem spec_Decimal_loop:∀ (n:Nat) (a:ByteArray),0 < n→a.size + n≤4611686018427387904→Ev (fun k => Z0x.l0 k (n:Int) false a) (digT n++a):=by
 intro n
 induction n using Nat.strongRecOn with
 | ind n ih =>
  intro a h0 h
  refine Ev.step (fun _ => rfl) ?_
  have ht:¬ Int.tmod (n:Int) 10 < 0:=by rw [Int.tmod_eq_emod_of_nonneg (by omega)];omega
  simp only [Z0x.l0,tdiv10 n (by omega)]
  refine Ev.neg (by omega) (Ev.neg ht (Ev.call (spec_l01Figure_dig n) (Ev.call rfl ?_)))
  simp only [strOfNums_size,List.length_singleton]
  refine Ev.pos (by omega) ?_
  by_cases hc:n < 10
  ·rw [show n / 10 = 0 by omega,digT_small hc]
   refine Ev.step (fun _ => rfl) ?_
   simp only [Z0x.l0]
   exact Ev.pos rfl (Ev.neg (by simp) (Ev.now _))
  ·rw [digT_big hc]
   exact ih (n / 10) (by omega) _ (by omega) (by rw [size_append,strOfNums_size,List.length_singleton];omega)
theorem spec_Decimal_nat (n:Nat) (h:n≤4611686018427387904):Ev (fun k => Z0x.f k (n:Int)) (digT n):=by
 by_cases h0:n = 0
 ·subst h0
  exact Ev.eq spec_Decimal_zero (by rw [digT,digits_small (by omega)];rfl)
 ·unfold Z0x.f
  rw [decide_eq_false (show ¬ ((n:Nat):Int) < 0 by omega)]
  exact Ev.neg (by omega) (Ev.eq (spec_Decimal_loop n ⟨#[]⟩ (by omega) (by show 0 + n≤_;omega)) (by show digT n++ByteArray.empty = _;simp))
theorem digits_len (n:Nat):(Lib.decDigits n).length≤n + 1:=by
 induction n using Nat.strongRecOn with
 | ind n ih =>
  by_cases hc:n < 10
  ·rw [digits_small hc];simp
  ·rw [digits_big hc,List.length_append,List.length_singleton]
   have:=ih (n / 10) (by omega)
   omega
theorem digT_size (n:Nat):(digT n).size≤n + 1:=by
 show (Lib.decDigits n).toArray.size≤n + 1
 rw [List.size_toArray];exact digits_len n
theorem itoa_nat (n:Nat):(⟨(Lib.itoa (n:Int)).toArray⟩:ByteArray) = digT n:=by
 rw [Lib.itoa,if_neg (by omega),Int.toNat_natCast];rfl
def segT (n:Int):ByteArray:=if inR n 0 999 = true then (⟨#[103]⟩:ByteArray)++digT n.toNat else ⟨#[]⟩
theorem Z15 (n:Int):Ev (fun k => Z0a.f k n) (segT n):=by
 unfold Z0a.f segT
 refine Ev.call (Z0u _ _ _) ?_
 cases hb:inR n 0 999
 ·exact Ev.neg (by simp) (Ev.done (by simp))
 ·have:=Zu.1 hb
  obtain ⟨m,rfl⟩:=Int.eq_ofNat_of_zero_le this.1
  have hs:=digT_size m
  exact Ev.pos rfl (Ev.bind (spec_Decimal_nat m (by omega)) (Ev.pos (by omega) (Ev.done (by simp))))
def formatShelf (l:List Int):List S122×Bool:=if (Z0N [0] 1 0 0 l).2 = true then ([⟨segT 0,⟨#[]⟩⟩,⟨⟨#[109]⟩,(Z0N [0] 1 0 0 l).1⟩],true) else ([],false)
theorem spec_FormatShelf_ev (l:List Int) (hl:l.length≤1048576):Ev (fun k => spec_FormatShelf.f k l) (formatShelf l):=by
 unfold spec_FormatShelf.f formatShelf
 refine Ev.bind (Z0E [0] 1 0 0 l (by simp) (by omega)) ?_
 exact Ev.ite (fun h => Ev.bind (Z15 0) (Ev.done (by rw [if_pos h]))) (fun h => Ev.done (by rw [if_neg h]))
def irise (next:Int):Option Int→List Int→Bool
 | _,[] => true
 | none,x::t => inR x 0 999 && (decide (x < next) && irise next (some x) t)
 | some q,x::t => inR x 0 999 && (decide (x < next) && (decide (q < x) && irise next (some x) t))
theorem impl_ManifestOk_loop (xs:List Int) (hx:xs.length≤9223372036854775806) (next base bt:Int) (conf:List Int) (hc:conf.length≤9223372036854775806):∀ (rest:List Int) (n:Nat),xs.drop n = rest →
  Ev (fun k => Z07.l0 k xs (xs.length:Int) (n:Int) xs next base bt conf) (irise next (prevOf xs n) rest && (inR xs.length 1 8 && (decide (next≤1000) && (inR base 0 100000 && (inR bt 0 100000 && confOk conf))))):=by
 intro rest
 induction rest with
 | nil =>
  intro n h
  have:=ZA h
  have hi:irise next (prevOf xs n) [] = true:=by cases n <;> rfl
  rw [hi,Bool.true_and]
  refine Ev.step (fun _ => rfl) ?_
  simp only [Z07.l0]
  refine Ev.neg (by omega) (Ev.call (Z0d _ _ _) ?_)
  cases h1:inR xs.length 1 8
  ·exact Ev.neg (by simp) (Ev.done (by simp))
  refine Ev.pos rfl (Ev.ite (fun h2 => ?_) (fun h2 => Ev.done (by simp [h2])))
  rw [decide_eq_true h2]
  refine Ev.call (Z0d _ _ _) ?_
  cases h4:inR base 0 100000
  ·exact Ev.neg (by simp) (Ev.done (by simp))
  refine Ev.pos rfl (Ev.call (Z0d _ _ _) ?_)
  cases h5:inR bt 0 100000
  ·exact Ev.neg (by simp) (Ev.done (by simp))
  exact Ev.pos rfl (Ev.bind (impl_ConfOk_ev conf hc) (Ev.done (by simp)))
 | cons x t ih =>
  intro n h
  obtain ⟨h1,-,h3⟩:=Zg h
  have ih:=ih (n + 1) h3
  rw [prevOf_next h] at ih
  refine Ev.step (fun _ => rfl) ?_
  simp only [Z07.l0,drop_rd h,Z4 (show n≤9223372036854775806 by omega)]
  refine Ev.pos (by omega) (Ev.pos (by omega) (Ev.pos (by omega) (Ev.call (Z0d _ _ _) ?_)))
  cases hb:inR x 0 999
  ·exact Ev.neg (by simp) (Ev.done (by cases n <;> simp [irise,prevOf,hb]))
  refine Ev.pos rfl (Ev.ite (fun hc => Ev.done ?_) (fun hn => ?_))
  ·have:decide (x < next) = false:=decide_eq_false (by omega)
   cases n <;> simp [irise,prevOf,this]
  have hn:decide (x < next) = true:=decide_eq_true (by omega)
  cases n with
  | zero => exact Ev.neg (by omega) (Ev.eq ih (by simp [irise,prevOf,hb,hn]))
  | succ m =>
   refine Ev.pos (by omega) ?_
   simp only [wrap64_pred (show m≤9223372036854775806 by omega)]
   refine Ev.pos (by omega) (Ev.pos (by omega) (Ev.ite (fun hc => Ev.done ?_) (fun hc => Ev.eq ih ?_)))
   ·simp only [prevOf,irise,hb,hn,decide_eq_false (show ¬ rd xs (m:Int) < x by omega)];simp
   ·simp only [prevOf,irise,hb,hn,decide_eq_true (show rd xs (m:Int) < x by omega)];simp
theorem irise_rise (next:Int) (h:next≤1000):∀ (l:List Int) (p:Option Int),irise next p l = rise 0 (next - 1) p l:=by
 intro l
 induction l with
 | nil => intro p;cases p <;> rfl
 | cons x t ih =>
  intro p
  have e:(inR x 0 999 && decide (x < next)) = inR x 0 (next - 1):=by
   rw [Bool.eq_iff_iff,Bool.and_eq_true,Zu,Zu,decide_eq_true_iff];omega
  cases p with
  | none => rw [irise,rise,←ih,←e,Bool.and_assoc]
  | some q => rw [irise,rise,←ih,←e,Bool.and_assoc]
theorem impl_ManifestOk_ev (segs:List Int) (next base bt:Int) (conf:List Int) (hs:segs.length≤9223372036854775806) (hc:conf.length≤9223372036854775806):Ev (fun k => Z07.f k segs next base bt conf) (manOk segs next base bt conf):=by
 refine Ev.eq (impl_ManifestOk_loop segs hs next base bt conf hc segs 0 rfl) ?_
 unfold manOk
 show (irise next none segs && _) = _
 by_cases h:next≤1000
 ·rw [irise_rise next h,decide_eq_true h]
  cases segs with
  | nil => simp [inR]
  | cons x t =>
   by_cases h0:0≤next
   ·rw [show inR next 0 1000 = true from Zu.2 ⟨h0,h⟩]
    simp only [Bool.true_and]
    cases rise 0 (next - 1) none (x::t) <;> simp
   ·have:rise 0 (next - 1) none (x::t) = false:=by
     rw [rise,show inR x 0 (next - 1) = false from inR_false.2 (by omega),Bool.false_and]
    rw [this];simp
 ·rw [decide_eq_false h,show inR next 0 1000 = false from inR_false.2 (by omega)]
  simp
theorem concat_man (segs:List Int) (next base bt:Int) (conf:List Int) (h1:segs.length≤1000) (h2:conf.length≤1000):Z13.f [[(segs.length:Int)],segs,[next,base,bt,(conf.length:Int)],conf] = some (manNums segs next base bt conf):=by
 have e:[[(segs.length:Int)],segs,[next,base,bt,(conf.length:Int)],conf].flatten = manNums segs next base bt conf:=by simp [manNums]
 have hl:(manNums segs next base bt conf).length≤3000:=by simp only [manNums,List.length_cons,List.length_append];omega
 unfold Z13.f
 rw [e,if_pos (by simp),if_pos (by simp),if_pos (by omega)]
theorem impl_ManifestText_ev (segs:List Int) (next base bt:Int) (conf:List Int) (hs:segs.length≤9223372036854775806) (hc:conf.length≤9223372036854775806):Ev (fun k => impl_ManifestText.f k segs next base bt conf) (Z0N segs next base bt conf):=by
 unfold impl_ManifestText.f Z0N
 refine Ev.bind (impl_ManifestOk_ev segs next base bt conf hs hc) ?_
 cases h:manOk segs next base bt conf
 ·exact Ev.neg (by simp) (Ev.done (by simp))
 ·obtain ⟨b1,b2,b3,b4,b5,b6,b7⟩:=Z0b h
  refine Ev.pos rfl (Ev.call (concat_man segs next base bt conf (by omega) (by omega)) (Ev.bind (impl_vars_ev (manNums segs next base bt conf) (by simp only [manNums,List.length_cons,List.length_append];omega)) ?_))
  have ha:(manNums segs next base bt conf).all (fun n => inR n 0 1000000000) = true:=by
   rw [List.all_eq_true]
   intro x hx
   rw [Zu]
   simp only [manNums,List.mem_cons,List.mem_append] at hx
   rcases hx with rfl | hx | rfl | rfl | rfl | rfl | hx
   ·omega
   ·have:=b6 x hx;omega
   ·omega
   ·omega
   ·omega
   ·omega
   ·have:=b7 x hx;omega
  have hl:∀ l:List Int,(∀ x∈l,0≤x∧x≤34359738367)→(l.flatMap fun n => varL n.toNat).length≤5 * l.length:=by
   intro l
   induction l with
   | nil => intro _;simp
   | cons x t ih =>
    intro hm
    have:=ih (fun y hy => hm y (List.mem_cons_of_mem _ hy))
    have hx:=hm x List.mem_cons_self
    have:=varL_len (show x.toNat≤34359738367 by omega)
    rw [List.flatMap_cons,List.length_append,List.length_cons]
    omega
  have hl:=hl (manNums segs next base bt conf) (fun x hx => by have:=Zu.1 (List.all_eq_true.1 ha x hx);omega)
  have hn:(manNums segs next base bt conf).length = segs.length + conf.length + 5:=by simp only [manNums,List.length_cons,List.length_append];omega
  rw [varsOf,if_pos ha]
  exact Ev.bind (impl_Sealed_ev _ (by rw [strOfNums_size];omega)) (Ev.done (by simp))
theorem Z0O (n:Int):Z0f.f n = some (segT n):=by
 unfold Z0f.f segT
 rw [Z0d,Option.bind_some]
 cases hb:inR n 0 999
 ·rw [if_neg (by simp),if_neg (by simp)]
 ·have:=Zu.1 hb
  obtain ⟨m,rfl⟩:=Int.eq_ofNat_of_zero_le this.1
  have hs:=digT_size m
  rw [if_pos rfl,if_pos rfl]
  unfold impl_Decimal.f
  rw [if_pos (by omega),if_pos (by omega),Option.bind_some,itoa_nat,if_pos (by omega),Int.toNat_natCast]
def fileRise:Option ByteArray→ByteArray→Bool
 | none,_ => true
 | some q,s => Op.bytesLess q.toList s.toList
def filesIn:Option ByteArray→List S122→Bool
 | _,[] => true
 | p,x::t => inR x.f0.size 1 12 && (decide (x.f1.size≤20000) && (fileRise p x.f0 && filesIn (some x.f0) t))
def Z0B (l:List S122):Bool:=decide (l.length≤30) && filesIn none l
def nameOf (xs:List S122):Nat→Option ByteArray
 | 0 => none
 | n + 1 => some (Z0e xs (n:Int)).f0
theorem spec_DiskOk_loop (l:List S122) (hl:l.length≤1048576):∀ (rest:List S122) (n:Nat),l.drop n = rest→Ev (fun k => ZR.l0 k (n:Int) l) (filesIn (nameOf l n) rest):=by
 intro rest
 induction rest with
 | nil =>
  intro n h
  have:=ZA h
  refine Ev.step (fun _ => rfl) ?_
  simp only [ZR.l0]
  exact Ev.neg (by omega) (Ev.done (by simp [filesIn]))
 | cons x t ih =>
  intro n h
  obtain ⟨h1,-,h3⟩:=Zg h
  have hk:nameOf l (n + 1) = some x.f0:=by rw [nameOf,rdT122_drop h]
  have ih:=ih (n + 1) h3
  rw [hk] at ih
  refine Ev.step (fun _ => rfl) ?_
  simp only [ZR.l0,rdT122_drop h,Z4 (show n≤9223372036854775806 by omega)]
  refine Ev.pos (by omega) (Ev.pos (by omega) (Ev.call (Z0u _ _ _) ?_))
  rw [filesIn]
  cases h0:inR x.f0.size 1 12
  ·exact Ev.neg (by simp) (Ev.done (by simp))
  refine Ev.pos rfl (Ev.ite (fun hc => Ev.done ?_) (fun hc => ?_))
  ·rw [decide_eq_false (show ¬ x.f1.size≤20000 by omega)];simp
  rw [decide_eq_true (show x.f1.size≤20000 by omega)]
  cases n with
  | zero => exact Ev.neg (by omega) (Ev.eq ih (by simp [nameOf,fileRise]))
  | succ m =>
   simp only [wrap64_pred (show m≤9223372036854775806 by omega)]
   refine Ev.pos (by omega) (Ev.pos (by omega) (Ev.pos (by omega) (Ev.ite (fun hc => Ev.eq ih ?_) (fun hc => Ev.done ?_))))
   ·simp only [nameOf,fileRise,hc];simp
   ·simp only [nameOf,fileRise,Bool.eq_false_iff.2 hc];simp
theorem spec_DiskOk_ev (l:List S122) (hl:l.length≤1048576):Ev (fun k => ZR.f k l) (Z0B l):=by
 unfold ZR.f Z0B
 refine Ev.ite (fun hc => Ev.done ?_) (fun hc => Ev.eq (spec_DiskOk_loop l hl l 0 rfl) ?_)
 ·rw [decide_eq_false (show ¬ l.length≤30 by omega)];rfl
 ·rw [decide_eq_true (show l.length≤30 by omega)];rfl
theorem impl_DiskOk_loop (l:List S122) (hl:l.length≤1048576):∀ (rest:List S122) (n:Nat),l.drop n = rest→Ev (fun k => ZX.l0 k l (l.length:Int) (n:Int) l) (filesIn (nameOf l n) rest && decide (l.length≤30)):=by
 intro rest
 induction rest with
 | nil =>
  intro n h
  have:=ZA h
  refine Ev.step (fun _ => rfl) ?_
  simp only [ZX.l0]
  refine Ev.neg (by omega) (Ev.done ?_)
  rw [filesIn,Bool.true_and,decide_eq_decide];omega
 | cons x t ih =>
  intro n h
  obtain ⟨h1,-,h3⟩:=Zg h
  have hk:nameOf l (n + 1) = some x.f0:=by rw [nameOf,rdT122_drop h]
  have ih:=ih (n + 1) h3
  rw [hk] at ih
  refine Ev.step (fun _ => rfl) ?_
  simp only [ZX.l0,rdT122_drop h,Z4 (show n≤9223372036854775806 by omega)]
  refine Ev.pos (by omega) (Ev.pos (by omega) (Ev.pos (by omega) (Ev.call (Z0d _ _ _) ?_)))
  rw [filesIn]
  cases h0:inR x.f0.size 1 12
  ·exact Ev.neg (by simp) (Ev.done (by simp))
  refine Ev.pos rfl (Ev.ite (fun hc => Ev.done ?_) (fun hc => ?_))
  ·rw [decide_eq_false (show ¬ x.f1.size≤20000 by omega)];simp
  rw [decide_eq_true (show x.f1.size≤20000 by omega)]
  cases n with
  | zero => exact Ev.neg (by omega) (Ev.eq ih (by simp [nameOf,fileRise]))
  | succ m =>
   simp only [wrap64_pred (show m≤9223372036854775806 by omega)]
   refine Ev.pos (by omega) (Ev.pos (by omega) (Ev.pos (by omega) (Ev.ite (fun hc => Ev.eq ih ?_) (fun hc => Ev.done ?_))))
   ·simp only [nameOf,fileRise,hc];simp
   ·simp only [nameOf,fileRise,Bool.eq_false_iff.2 hc];simp
theorem impl_DiskOk_ev (l:List S122) (hl:l.length≤1048576):Ev (fun k => ZX.f k l) (Z0B l) :=
 Ev.eq (impl_DiskOk_loop l hl l 0 rfl) (by rw [Bool.and_comm];rfl)
def Ze (key:ByteArray) (x:S122):Int:=Lib.compareBytes x.f0.data.toList key.data.toList
theorem name_lt (key:ByteArray) (x:S122):Ze key x < 0↔lessK x.f0 key = true:=by unfold Ze lessK;rw [←ByteArray.toList_eq,←ByteArray.toList_eq];exact (cmp_less _ _).1
theorem name_eq (key:ByteArray) (x:S122):Ze key x = 0↔x.f0.toList = key.toList:=by unfold Ze;rw [←ByteArray.toList_eq,←ByteArray.toList_eq];exact (cmp_less _ _).2
def namesUp (l:List S122):Prop:=l.Pairwise fun x y => lessK x.f0 y.f0 = true
theorem filesIn_up:∀ (l:List S122) (p:Option ByteArray),filesIn p l = true→namesUp l∧∀ q,p = some q→∀ x∈l,lessK q x.f0 = true
 | [],_,_ => ⟨List.Pairwise.nil,fun _ _ x hx => by cases hx⟩
 | x::t,p,h => by
  simp only [filesIn,Bool.and_eq_true] at h
  obtain ⟨-,-,h3,h4⟩:=h
  obtain ⟨i1,i2⟩:=filesIn_up t _ h4
  have i2:=i2 _ rfl
  refine ⟨List.Pairwise.cons i2 i1,?_⟩
  rintro q rfl y hy
  rcases List.mem_cons.1 hy with rfl | hy
  ·exact h3
  ·exact less_trans h3 (i2 y hy)
theorem diskOk_up {l:List S122} (h:Z0B l = true):l.length≤30∧namesUp l:=by
 simp only [Z0B,Bool.and_eq_true,decide_eq_true_iff] at h
 exact ⟨h.1,(filesIn_up l none h.2).1⟩
theorem ahead_at {l:List S122} (h:namesUp l) {i:Nat} {x:S122} {key:ByteArray} (hi:l[i]? = some x) (he:x.f0.toList = key.toList):Z01 (Ze key) l = i∧stands (Ze key) l = true:=by
 obtain ⟨h1,h2⟩:=List.getElem?_eq_some_iff.1 hi
 have ea:Z01 (Ze key) l = i:=by
  refine aheadN_eq _ l i (by omega) (fun t y ht hy => ?_) (fun t y ht hy => ?_)
  ·obtain ⟨k1,k2⟩:=List.getElem?_eq_some_iff.1 hy
   rw [name_lt]
   have:=List.pairwise_iff_getElem.1 h t i k1 h1 ht
   rw [h2,k2] at this
   unfold lessK at this ⊢
   rw [←he];exact this
  ·obtain ⟨k1,k2⟩:=List.getElem?_eq_some_iff.1 hy
   refine Int.not_lt.1 fun hn => ?_
   rw [name_lt] at hn
   rcases Nat.lt_or_eq_of_le ht with ht | rfl
   ·have:=List.pairwise_iff_getElem.1 h i t h1 k1 ht
    rw [h2,k2] at this
    unfold lessK at this hn
    rw [he] at this
    have:=less_trans this hn
    rw [less_irr] at this;cases this
   ·have e:x = y:=by rw [←h2,←k2]
    subst e
    unfold lessK at hn
    rw [he,less_irr] at hn;cases hn
 refine ⟨ea,?_⟩
 unfold stands
 rw [ea,hi]
 exact decide_eq_true ((name_eq key x).2 he)
theorem stands_at {l:List S122} {key:ByteArray} (h:stands (Ze key) l = true):∃ x,l[Z01 (Ze key) l]? = some x∧x.f0.toList = key.toList:=by
 unfold stands at h
 cases hx:l[Z01 (Ze key) l]? with
 | none => rw [hx] at h;cases h
 | some x => rw [hx] at h;exact ⟨x,rfl,(name_eq key x).1 (of_decide_eq_true h)⟩
theorem spec_l03At_loop (key:ByteArray) (l:List S122) (hl:l.length≤1048576) (r:Int) (hr1:∀ i x,l[i]? = some x→x.f0.toList = key.toList→r = (i:Nat)) (hr2:(∀ x∈l,x.f0.toList≠key.toList)→r = -1) :
  ∀ (rest:List S122) (n:Nat),l.drop n = rest→(∀ t x,t < n→l[t]? = some x→x.f0.toList≠key.toList)→Ev (fun k => Z0K.l0 k key (n:Int) l) r:=by
 intro rest
 induction rest with
 | nil =>
  intro n h hb
  have:=ZA h
  refine Ev.step (fun _ => rfl) ?_
  simp only [Z0K.l0]
  refine Ev.neg (by omega) (Ev.done (hr2 fun x hx => ?_).symm)
  obtain ⟨i,hi,rfl⟩:=List.getElem_of_mem hx
  exact hb i _ (by omega) (List.getElem?_eq_getElem hi)
 | cons x t ih =>
  intro n h hb
  obtain ⟨h1,-,h3⟩:=Zg h
  have hx:l[n]? = some x:=by rw [rdT122_get h1,rdT122_drop h]
  refine Ev.step (fun _ => rfl) ?_
  simp only [Z0K.l0,rdT122_drop h,Z4 (show n≤9223372036854775806 by omega)]
  refine Ev.pos (by omega) (Ev.pos (by omega) (Ev.ite (fun hc => Ev.done (hr1 n x hx hc).symm) (fun hc => ih (n + 1) h3 fun t y ht hy => ?_)))
  rcases Nat.lt_or_eq_of_le (Nat.le_of_lt_succ ht) with ht | rfl
  ·exact hb t y ht hy
  ·rw [hx] at hy;injection hy with hy;subst hy;exact hc
def placeAt (key:ByteArray) (l:List S122):Int:=if stands (Ze key) l = true then ((Z01 (Ze key) l:Nat):Int) else -1
theorem spec_l03At_ev (l:List S122) (hl:l.length≤1048576) (h:namesUp l) (key:ByteArray):Ev (fun k => Z0K.f k l key) (placeAt key l):=by
 refine spec_l03At_loop key l hl _ (fun i x hi he => ?_) (fun hn => ?_) l 0 rfl (fun t x ht => absurd ht (Nat.not_lt_zero _))
 ·obtain ⟨e1,e2⟩:=ahead_at h hi he
  rw [placeAt,if_pos e2,e1]
 ·rw [placeAt,if_neg]
  intro hs
  obtain ⟨x,hx,he⟩:=stands_at hs
  exact hn x (List.mem_of_getElem? hx) he
def ZD (key:ByteArray) (l:List S122):ByteArray:=if stands (Ze key) l = true then (Z0e l ((Z01 (Ze key) l:Nat):Int)).f1 else ⟨#[]⟩
theorem spec_l03Text_ev (l:List S122) (hl:l.length≤1048576) (h:namesUp l) (key:ByteArray):Ev (fun k => Z12.f k l key) (ZD key l):=by
 unfold Z12.f ZD
 refine Ev.bind (spec_l03At_ev l hl h key) ?_
 unfold placeAt
 cases hs:stands (Ze key) l
 ·exact Ev.pos (by simp) (Ev.done (by simp))
 ·obtain ⟨x,hx,-⟩:=stands_at hs
  obtain ⟨h1,-⟩:=List.getElem?_eq_some_iff.1 hx
  rw [if_pos rfl,if_pos rfl]
  exact Ev.neg (by omega) (Ev.pos (by omega) (Ev.pos (by omega) (Ev.now _)))
theorem slices_BinarySearchFunc_impl_File_impl_File_string_loop (l:List S122) (hl:l.length≤1048576) (h:namesUp l) (key:ByteArray):∀ (m lo hi:Nat),lo≤hi→hi≤l.length→hi - lo≤m→(∀ t x,t < lo→l[t]? = some x→Ze key x < 0)→(∀ t x,hi≤t→l[t]? = some x→0≤Ze key x) →
  Ev (fun k => Z0.l0 k l key (l.length:Int) (lo:Int) (hi:Int)) (((Z01 (Ze key) l:Nat):Int),stands (Ze key) l):=by
 have hget:∀ n,n < l.length→l[n]? = some (Z0e l (n:Int)):=fun n hn => by unfold Z0e;rw [Int.toNat_natCast,List.getD_eq_getElem?_getD,List.getElem?_eq_getElem hn];rfl
 have hmono:∀ (i j:Nat) (x y:S122),i≤j→l[i]? = some x→l[j]? = some y→lessK x.f0 y.f0 = true∨x = y:=fun i j x y hij hx hy => by
  obtain ⟨i1,i2⟩:=List.getElem?_eq_some_iff.1 hx
  obtain ⟨j1,j2⟩:=List.getElem?_eq_some_iff.1 hy
  rcases Nat.lt_or_eq_of_le hij with hlt | rfl
  ·left
   have:=List.pairwise_iff_getElem.1 h i j i1 j1 hlt
   rwa [i2,j2] at this
  ·right;rw [←i2,←j2]
 have fin:∀ n:Nat,n≤l.length→(∀ t x,t < n→l[t]? = some x→Ze key x < 0)→(∀ t x,n≤t→l[t]? = some x→0≤Ze key x)→Ev (fun k => Z0.l0 k l key (l.length:Int) (n:Int) (n:Int)) (((Z01 (Ze key) l:Nat):Int),stands (Ze key) l):=fun n hn h1 h2 => by
  have ea:=aheadN_eq (Ze key) l n hn h1 h2
  refine Ev.step (fun _ => rfl) ?_
  simp only [Z0.l0]
  refine Ev.neg (by omega) ?_
  unfold stands
  rw [ea]
  by_cases hc:n < l.length
  ·rw [hget n hc]
   exact Ev.pos (by omega) (Ev.pos (by omega) (Ev.pos (by omega) (Ev.call (a:=Ze key (Z0e l (n:Int))) rfl (Ev.done rfl))))
  ·rw [List.getElem?_eq_none (by omega)]
   exact Ev.neg (by omega) (Ev.now _)
 intro m
 induction m with
 | zero =>
  intro lo hi h0 h1 h2 h3 h4
  obtain rfl:lo = hi:=by omega
  exact fin lo h1 h3 h4
 | succ m ih =>
  intro lo hi h0 h1 h2 h3 h4
  by_cases hc:lo < hi
  ·have em:wrap64 (((wrap64 ((lo:Int) + (hi:Int))) % 18446744073709551616) / 2) = (((lo + hi) / 2:Nat):Int):=by rw [Z9 (n:=(lo:Int) + (hi:Int)) (by omega) (by omega),Z9 (by omega) (by omega)];omega
   refine Ev.step (fun _ => rfl) ?_
   simp only [Z0.l0,em]
   generalize hn:(lo + hi) / 2 = n
   have hn1:lo≤n:=by omega
   have hn2:n < hi:=by omega
   refine Ev.pos (by omega) (Ev.pos (by omega) (Ev.pos (by omega) (Ev.call (a:=Ze key (Z0e l (n:Int))) rfl (Ev.ite (fun hk => ?_) (fun hk => ?_)))))
   ·rw [Z4 (show n≤9223372036854775806 by omega)]
    refine ih (n + 1) hi (by omega) h1 (by omega) (fun t x ht hx => ?_) h4
    rcases hmono t n x _ (by omega) hx (hget n (by omega)) with hm | rfl
    ·rw [name_lt] at hk ⊢;exact lessK_trans hm hk
    ·exact hk
   ·refine ih lo n (by omega) (by omega) (by omega) h3 (fun t x ht hx => ?_)
    rcases hmono n t _ x ht (hget n (by omega)) hx with hm | rfl
    ·refine Int.not_lt.1 fun hx' => hk ?_
     rw [name_lt] at hx' ⊢;exact lessK_trans hm hx'
    ·exact Int.not_lt.1 hk
  ·obtain rfl:lo = hi:=by omega
   exact fin lo h1 h3 h4
theorem slices_BinarySearchFunc_impl_File_impl_File_string_ev (l:List S122) (hl:l.length≤1048576) (h:namesUp l) (key:ByteArray):Ev (fun k => Z0.f k l key) (((Z01 (Ze key) l:Nat):Int),stands (Ze key) l):=by
 unfold Z0.f
 exact slices_BinarySearchFunc_impl_File_impl_File_string_loop l hl h key l.length 0 l.length (by omega) (by omega) (by omega) (fun t x ht => absurd ht (Nat.not_lt_zero _)) (fun t x ht hx => by have:=(List.getElem?_eq_some_iff.1 hx).1;omega)
theorem impl_fileNo_ev (l:List S122) (hl:l.length≤1048576) (h:namesUp l) (key:ByteArray):Ev (fun k => impl_fileNo.f k l key) (((Z01 (Ze key) l:Nat):Int),stands (Ze key) l):=by
 unfold impl_fileNo.f
 exact Ev.bind (slices_BinarySearchFunc_impl_File_impl_File_string_ev l hl h key) (Ev.now _)
theorem impl_FileAt_ev (l:List S122) (hd:Z0B l = true) (key:ByteArray):Ev (fun k => Z16.f k l key) (ZD key l,stands (Ze key) l):=by
 obtain ⟨hl,hu⟩:=diskOk_up hd
 unfold Z16.f ZD
 refine Ev.bind (impl_DiskOk_ev l (by omega)) ?_
 rw [hd]
 refine Ev.pos rfl (Ev.bind (impl_fileNo_ev l (by omega) hu key) ?_)
 cases hs:stands (Ze key) l
 ·exact Ev.neg (by simp) (Ev.done (by simp))
 ·obtain ⟨x,hx,-⟩:=stands_at hs
  obtain ⟨h1,-⟩:=List.getElem?_eq_some_iff.1 hx
  exact Ev.pos rfl (Ev.pos (by omega) (Ev.pos (by omega) (Ev.done (by simp))))
theorem spotOk_nums {x:S145} (h:spotOk x = true):(1≤x.f0.size∧x.f0.size≤10)∧(0≤x.f1∧x.f1≤999)∧(0≤x.f2∧x.f2≤20000)∧(0≤x.f3∧x.f3≤40):=by
 simp only [spotOk,Bool.and_eq_true] at h
 obtain ⟨h1,h2,h3,h4⟩:=h
 have:=Zu.1 h1;have:=Zu.1 h2;have:=Zu.1 h3;have:=Zu.1 h4
 omega
def pairAt (d:List S122) (x:S145):S147:=⟨x.f0,(ZD (segT x.f1) d).extract x.f2.toNat (x.f2 + x.f3).toNat⟩
def mapRows (d:List S122):List S145→List S147→List S147×Bool
 | [],acc => (acc,true)
 | x::t,acc => if x.f2 + x.f3 > ((ZD (segT x.f1) d).size:Int) then ([],false) else mapRows d t (acc++[pairAt d x])
def shelfMap (d:List S122) (dir:List S145):List S147×Bool:=if (Z0B d && dirOk dir) = true then mapRows d dir [] else ([],false)
theorem spec_ShelfMap_loop (d:List S122) (hd:Z0B d = true) (s0:List Int) (a1 a2 a3:Int) (s4:List Int) (dir:List S145) (a6:Int) (hl:dir.length≤1048576):∀ (rest:List S145) (n:Nat) (acc:List S147),dir.drop n = rest→(∀ x∈rest,spotOk x = true)→acc.length + rest.length≤4000000 →
  Ev (fun k => ZC.l0 k acc (n:Int) d s0 a1 a2 a3 s4 dir a6) (mapRows d rest acc):=by
 obtain ⟨hdl,hu⟩:=diskOk_up hd
 intro rest
 induction rest with
 | nil =>
  intro n acc h _ _
  have:=ZA h
  refine Ev.step (fun _ => rfl) ?_
  simp only [ZC.l0]
  exact Ev.neg (by omega) (Ev.now _)
 | cons x t ih =>
  intro n acc h hm ha
  obtain ⟨h1,-,h3⟩:=Zg h
  obtain ⟨-,-,z2,z3⟩:=spotOk_nums (hm x List.mem_cons_self)
  rw [List.length_cons] at ha
  refine Ev.step (fun _ => rfl) ?_
  simp only [ZC.l0,rdT145_drop h,Z4 (show n≤9223372036854775806 by omega),Z9 (show -9223372036854775808≤x.f2 + x.f3 by omega) (by omega)]
  refine Ev.pos (by omega) (Ev.pos (by omega) (Ev.bind (Z15 x.f1) (Ev.bind (spec_l03Text_ev d (by omega) hu _) ?_)))
  rw [mapRows]
  refine Ev.ite (fun hc => Ev.done (by rw [if_pos hc])) (fun hc => ?_)
  rw [if_neg hc]
  exact Ev.pos (by omega) (Ev.pos (by omega) (Ev.pos (by omega) (Ev.pos (by omega) (ih (n + 1) _ h3 (fun y hy => hm y (List.mem_cons_of_mem _ hy)) (by simp only [List.length_append,List.length_cons,List.length_nil];omega)))))
theorem dirOk_all {l:List S145} (h:dirOk l = true):l.length≤60∧∀ x∈l,spotOk x = true:=by
 rw [dirOk,Bool.and_eq_true,decide_eq_true_iff] at h
 exact ⟨h.1,dirIn_mem h.2⟩
theorem spec_ShelfMap_ev (d:List S122) (hd:d.length≤1048576) (s0:List Int) (a1 a2 a3:Int) (s4:List Int) (dir:List S145) (a6:Int) (hl:dir.length≤1048576):Ev (fun k => ZC.f k d s0 a1 a2 a3 s4 dir a6) (shelfMap d dir):=by
 unfold ZC.f shelfMap
 refine Ev.call rfl (Ev.bind (spec_DiskOk_ev d hd) ?_)
 cases h1:Z0B d
 ·refine Ev.neg (by simp) (Ev.step (fun _ => rfl) ?_)
  simp only [ZC.j0]
  exact Ev.pos (by simp) (Ev.done (by simp))
 ·refine Ev.pos rfl (Ev.bind (spec_DirOk_ev dir (by omega)) ?_)
  refine Ev.step (fun _ => rfl) ?_
  simp only [ZC.j0]
  cases h2:dirOk dir
  ·exact Ev.pos (by simp) (Ev.done (by simp))
  ·obtain ⟨k1,k2⟩:=dirOk_all h2
   exact Ev.neg (by simp) (Ev.eq (spec_ShelfMap_loop d h1 s0 a1 a2 a3 s4 dir a6 hl dir 0 [] rfl k2 (by simp;omega)) (by simp))
theorem impl_ShelfMap_loop (d:List S122) (hd:Z0B d = true) (dir:List S145) (hl:dir.length≤1048576):∀ (rest:List S145) (n:Nat) (acc:List S147),dir.drop n = rest→(∀ x∈rest,spotOk x = true)→acc.length + rest.length≤4000000 →
  Ev (fun k => Zw.l0 k acc dir (dir.length:Int) (n:Int) d) (mapRows d rest acc):=by
 intro rest
 induction rest with
 | nil =>
  intro n acc h _ _
  have:=ZA h
  refine Ev.step (fun _ => rfl) ?_
  simp only [Zw.l0]
  exact Ev.neg (by omega) (Ev.now _)
 | cons x t ih =>
  intro n acc h hm ha
  obtain ⟨h1,-,h3⟩:=Zg h
  obtain ⟨-,-,z2,z3⟩:=spotOk_nums (hm x List.mem_cons_self)
  rw [List.length_cons] at ha
  refine Ev.step (fun _ => rfl) ?_
  simp only [Zw.l0,rdT145_drop h,Z4 (show n≤9223372036854775806 by omega),Z9 (show -9223372036854775808≤x.f2 + x.f3 by omega) (by omega)]
  refine Ev.pos (by omega) (Ev.pos (by omega) (Ev.pos (by omega) (Ev.call (Z0O x.f1) (Ev.bind (impl_FileAt_ev d hd _) ?_))))
  rw [mapRows]
  refine Ev.ite (fun hc => Ev.done (by rw [if_pos hc])) (fun hc => ?_)
  rw [if_neg hc]
  dsimp only at hc
  exact Ev.pos (by omega) (Ev.pos (by omega) (Ev.pos (by dsimp only;omega) (Ev.pos (by omega) (ih (n + 1) _ h3 (fun y hy => hm y (List.mem_cons_of_mem _ hy)) (by simp only [List.length_append,List.length_cons,List.length_nil];omega)))))
theorem impl_ShelfMap_ev (d:List S122) (hd:d.length≤1048576) (s0:List Int) (a1 a2 a3:Int) (s4:List Int) (dir:List S145) (a6:Int) (hl:dir.length≤1048576):Ev (fun k => Zw.f k d s0 a1 a2 a3 s4 dir a6) (shelfMap d dir):=by
 unfold Zw.f shelfMap
 refine Ev.bind (impl_DiskOk_ev d hd) ?_
 cases h1:Z0B d
 ·refine Ev.neg (by simp) (Ev.step (fun _ => rfl) ?_)
  simp only [Zw.j0]
  exact Ev.pos (by simp) (Ev.done (by simp))
 ·refine Ev.pos rfl (Ev.bind (impl_DirOk_ev dir (by omega)) ?_)
  refine Ev.step (fun _ => rfl) ?_
  simp only [Zw.j0]
  cases h2:dirOk dir
  ·exact Ev.pos (by simp) (Ev.done (by simp))
  ·obtain ⟨k1,k2⟩:=dirOk_all h2
   exact Ev.neg (by simp) (Ev.eq (impl_ShelfMap_loop d h1 dir hl dir 0 [] rfl k2 (by simp;omega)) (by simp))
def keys8:List ByteArray:=[⟨#[107,97]⟩,⟨#[107,98]⟩,⟨#[107,99]⟩,⟨#[110]⟩,⟨#[115,49]⟩,⟨#[115,50]⟩,⟨#[107,100]⟩,⟨#[122,122]⟩]
theorem spec_l05KeyOf_to {l:List Int} (hl:l.length≤140737488351232) {s:List Int} {i:Int} (y:Int) (h:Cu l s i):To (fun _ => spec_l05KeyOf.f s i y) (fun r => r.1∈keys8∧Cu l r.2.1 r.2.2.1):=by
 unfold spec_l05KeyOf.f
 refine To.bind (spec_l01Pick_to hl y h _ (by simp)) (fun r p => To.now ⟨?_,p.2⟩)
 have:=p.1
 simp only [List.mem_cons,List.not_mem_nil,or_false] at this
 simp only [keys8,List.mem_cons,List.not_mem_nil,or_false]
 rcases this with h | h | h | h | h | h | h <;> simp [h]
theorem rdC_mem {xs:List S162} {n:Nat} (h:n < xs.length):ZP xs (n:Int)∈xs:=List.mem_of_getElem? (rdT162_get h)
def drawnC (N:Nat) (l:List S162):Prop:=l.length≤N∧∀ x∈l,x.f0∈keys8
theorem drawnC_app {N:Nat} {l:List S162} {x:S162} (h:drawnC N l) (hx:x.f0∈keys8):drawnC (N + 1) (l++[x]):=⟨by simp;exact h.1,fun y hy => by
 rcases List.mem_append.1 hy with hy | hy
 ·exact h.2 y hy
 ·obtain rfl:=List.mem_singleton.1 hy;exact hx⟩
theorem spec_l05Right_l2 {P:Int×List S162×List Int×Int×Int→Prop} (x6 a0:Int) (z:List S162) (st:Int) (ch:List S162) (hc:drawnC 100 ch) (key val:ByteArray) (g:Bool) (s:List Int) (i y:Int) (N:Nat) (hN:N≤1000)
  (k0:∀ nx,drawnC (N + ch.length) nx→To (fun k => Zh.l0 k (wrap64 (x6 + 1)) a0 z st nx s i y) P):∀ (m n:Nat) (acc:List S162),ch.length - n≤m→n≤ch.length→drawnC (N + n) acc→To (fun k => Zh.l2 k x6 acc (n:Int) a0 z st ch key val g s i y) P:=by
 intro m
 have hc1:=hc.1
 induction m with
 | zero =>
  intro n acc h1 h2 h3
  refine To.step (fun _ => rfl) ?_
  simp only [Zh.l2]
  exact To.neg (by omega) (k0 acc ⟨by have:=h3.1;omega,h3.2⟩)
 | succ m ih =>
  intro n acc h1 h2 h3
  have h31:=h3.1
  refine To.step (fun _ => rfl) ?_
  simp only [Zh.l2,Z4 (show n≤9223372036854775806 by omega)]
  refine To.ite (fun c => To.pos (by omega) (To.ite (fun _ => To.pos (by omega) ?_) (fun _ => ?_))) (fun c => k0 acc ⟨by omega,h3.2⟩)
  ·exact ih (n + 1) _ (by omega) (by omega) (drawnC_app h3 (hc.2 _ (rdC_mem (by omega))))
  ·exact ih (n + 1) _ (by omega) (by omega) ⟨by omega,h3.2⟩
theorem spec_l05Right_l1 {P:Int×List S162×List Int×Int×Int→Prop} (x6 a0:Int) (z:List S162) (st:Int) (ch:List S162) (hc:drawnC 100 ch) (key val:ByteArray) (hk:key∈keys8) (g:Bool) (s:List Int) (i y:Int)
  (k0:∀ nx,drawnC (2 * ch.length + 1) nx→To (fun k => Zh.l0 k (wrap64 (x6 + 1)) a0 z st nx s i y) P):∀ (m n:Nat) (acc:List S162),ch.length - n≤m→n≤ch.length→drawnC n acc→To (fun k => Zh.l1 k x6 acc (n:Int) a0 z st ch key val g s i y) P:=by
 intro m
 have hc1:=hc.1
 have fin:∀ acc,drawnC ch.length acc→To (fun k => Zh.l2 k x6 (acc++[(⟨key,val,g⟩:S162)]) 0 a0 z st ch key val g s i y) P:=fun acc h =>
  spec_l05Right_l2 x6 a0 z st ch hc key val g s i y (ch.length + 1) (by omega) (fun nx hn => k0 nx ⟨by have:=hn.1;omega,hn.2⟩) ch.length 0 _ (by omega) (by omega) (drawnC_app h hk)
 induction m with
 | zero =>
  intro n acc h1 h2 h3
  have h31:=h3.1
  refine To.step (fun _ => rfl) ?_
  simp only [Zh.l1]
  exact To.neg (by omega) (To.pos (by omega) (fin acc ⟨by omega,h3.2⟩))
 | succ m ih =>
  intro n acc h1 h2 h3
  have h31:=h3.1
  refine To.step (fun _ => rfl) ?_
  simp only [Zh.l1,Z4 (show n≤9223372036854775806 by omega)]
  refine To.ite (fun c => To.pos (by omega) (To.ite (fun _ => To.pos (by omega) ?_) (fun _ => ?_))) (fun c => To.pos (by omega) (fin acc ⟨by omega,h3.2⟩))
  ·exact ih (n + 1) _ (by omega) (by omega) (drawnC_app h3 (hc.2 _ (rdC_mem (by omega))))
  ·exact ih (n + 1) _ (by omega) (by omega) ⟨by omega,h3.2⟩
theorem spec_l05Right_l0 {l:List Int} (hl:l.length≤140737488351232) (a0:Int) (z:List S162) (st:Int):∀ (m n:Nat) (ch:List S162) (s:List Int) (i y:Int),3 - n≤m→n≤3→drawnC (2 ^ n - 1) ch→Cu l s i→To (fun k => Zh.l0 k (n:Int) a0 z st ch s i y) (fun r => r.1 = st∧drawnC 8 r.2.1∧Cu l r.2.2.1 r.2.2.2.1):=by
 intro m
 induction m with
 | zero =>
  intro n ch s i y h1 h2 h3 h
  obtain rfl:n = 3:=by omega
  refine To.step (fun _ => rfl) ?_
  simp only [Zh.l0]
  exact To.bind (spec_l01Below_to hl y h 4) (fun r p => To.neg (by have:=p.2.1 (by omega);omega) (To.now ⟨rfl,⟨show ch.length≤8 by have:=h3.1;omega,h3.2⟩,p.2.2⟩))
 | succ m ih =>
  intro n ch s i y h1 h2 h3 h
  have h31:=h3.1
  have hp:2 ^ n≤8:=Nat.pow_le_pow_right (n:=2) (by omega) h2
  have hq:2 ^ (n + 1) = 2 * 2 ^ n:=by rw [Nat.pow_succ];omega
  have hr:1≤2 ^ n:=Nat.one_le_two_pow
  refine To.step (fun _ => rfl) ?_
  simp only [Zh.l0]
  refine To.bind (spec_l01Below_to hl y h 4) (fun r p => To.ite (fun c => ?_) (fun c => To.now ⟨rfl,⟨show ch.length≤8 by omega,h3.2⟩,p.2.2⟩))
  have hn:n < 3:=by have:=p.2.1 (by omega);omega
  have nx:∀ (s:List Int) (i y:Int),Cu l s i→∀ nx,drawnC (2 * ch.length + 1) nx→To (fun k => Zh.l0 k (wrap64 ((n:Int) + 1)) a0 z st nx s i y) (fun r => r.1 = st∧drawnC 8 r.2.1∧Cu l r.2.2.1 r.2.2.2.1):=fun s i y hs nx hx => by
   rw [Z4 (show n≤9223372036854775806 by omega)]
   exact ih (n + 1) nx s i y (by omega) (by omega) ⟨by have:=hx.1;omega,hx.2⟩ hs
  refine To.bind (spec_l05KeyOf_to hl _ p.2.2) (fun r1 p1 => To.bind (spec_l01Below_to hl _ p1.2 6) (fun r2 p2 => To.bind (spec_l01Text_to hl _ p2.2.2 _) (fun r3 p3 => To.bind (spec_l01Once_to hl _ p3.2 4) (fun r4 p4 => To.ite (fun _ => ?_) (fun _ => ?_)))))
  ·exact spec_l05Right_l1 (n:Int) a0 z st ch ⟨by omega,h3.2⟩ r1.1 _ p1.1 true _ _ _ (nx _ _ _ p4) ch.length 0 [] (by omega) (by omega) ⟨by simp,fun x hx => by cases hx⟩
  ·exact spec_l05Right_l1 (n:Int) a0 z st ch ⟨by omega,h3.2⟩ r1.1 _ p1.1 false _ _ _ (nx _ _ _ p4) ch.length 0 [] (by omega) (by omega) ⟨by simp,fun x hx => by cases hx⟩
theorem spec_l05Right_to {l:List Int} (hl:l.length≤140737488351232) {s:List Int} {i:Int} (y:Int) (h:Cu l s i) (st:Int):To (fun k => Zh.f k s i y st) (fun r => r.1 = st∧drawnC 8 r.2.1∧Cu l r.2.2.1 r.2.2.2.1):=by
 unfold Zh.f
 exact spec_l05Right_l0 hl 0 [] st 3 0 [] s i y (by omega) (by omega) ⟨by simp,fun x hx => by cases hx⟩ h
end Go.Ep
