/- The pure statement of the law: its plain function answers true. No conditions but those that each statement names. By this repo's programs; comments are taken out. -/
import Derived.Lib.AtoiBound
import Derived.Test.YtlmicldpfnmeaaaGreatDoorVFnComesBackD
import Derived.Test.YtlmicldpfnmeaaaGreatDoorVFnComesBackA
set_option linter.all false
namespace Go.Ep
open Go.RowKit Go.Proofs.YtlmicldpfnmeaaaGreatDoorW.PrintWords Go.Proofs.YtlmicldpfnmeaaaGreatDoorW.PrintLast Go.Proofs.YtlmicldpfnmeaaaGreatDoorW.PrintMore Go.Ev
def Z08 {α:Type} (cf:α→Int) (xs:List α):Nat:=xs.countP (fun x => decide (cf x < 0))
theorem Z6u {α:Type} (cf:α→Int) (xs:List α):Z08 cf xs≤xs.length:=List.countP_le_length
theorem Z5Q {α:Type} (cf:α→Int):∀ (l:List α) (i:Nat),i≤l.length→(∀ t x,t < i→l[t]? = some x→cf x < 0)→(∀ t x,i≤t→l[t]? = some x→0≤cf x)→Z08 cf l = i
 | [],i,hi,_,_ => by simp at hi;simp [hi,Z08]
 | a::r,0,_,_,h2 => by
  unfold Z08
  rw [List.countP_eq_zero]
  intro x hx
  obtain ⟨t,ht,rfl⟩:=List.getElem_of_mem hx
  have:=h2 t _ (Nat.zero_le _) (List.getElem?_eq_getElem ht)
  simp;omega
 | a::r,i + 1,hi,h1,h2 => by
  have ha:=h1 0 a (Nat.succ_pos _) rfl
  have ih:=Z5Q cf r i (by simpa using hi) (fun t x ht hx => h1 (t + 1) x (by omega) (by simpa using hx)) (fun t x h3 hx => h2 (t + 1) x (by omega) (by simpa using hx))
  unfold Z08 at ih ⊢
  rw [List.countP_cons_of_pos (by simpa using ha),ih]
def stands {α:Type} (cf:α→Int) (xs:List α):Bool:=match xs[Z08 cf xs]? with | some x => decide (cf x = 0) | none => false
theorem Z50:∀ (a:List UInt8),Op.bytesLess a a = false
 | [] => rfl
 | a::x => by
  have h1:¬ a < a:=fun e => by have:=UInt8.lt_iff_toNat_lt.mp e;omega
  simp [Op.bytesLess,h1,Z50 x]
theorem Z1Y:∀ {a b c:List UInt8},Op.bytesLess a b = true→Op.bytesLess b c = true→Op.bytesLess a c = true
 | _,[],_,h,_ => by simp [Op.bytesLess] at h
 | _,_::_,[],_,h => by simp [Op.bytesLess] at h
 | [],_::_,_::_,_,_ => rfl
 | a::x,b::y,c::z,h,k => by
  simp only [Op.bytesLess,Bool.or_eq_true,Bool.and_eq_true,decide_eq_true_iff,beq_iff_eq] at h k ⊢
  rcases h with h | ⟨rfl,h⟩
  ·rcases k with k | ⟨rfl,k⟩
   ·exact .inl (UInt8.lt_trans h k)
   ·exact .inl h
  ·rcases k with k | ⟨rfl,k⟩
   ·exact .inl k
   ·exact .inr ⟨rfl,Z1Y h k⟩
theorem ZaK:∀ {a b:List UInt8},Op.bytesLess a b = false→Op.bytesLess b a = false→a = b
 | [],[],_,_ => rfl
 | [],_::_,h,_ => by simp [Op.bytesLess] at h
 | _::_,[],_,k => by simp [Op.bytesLess] at k
 | a::x,b::y,h,k => by
  simp only [Op.bytesLess,Bool.or_eq_false_iff,Bool.and_eq_false_iff,decide_eq_false_iff_not,beq_eq_false_iff_ne] at h k
  obtain ⟨h1,h2⟩:=h
  obtain ⟨k1,k2⟩:=k
  have e:a = b:=by
   rw [UInt8.lt_iff_toNat_lt] at h1 k1
   exact UInt8.toNat_inj.mp (by omega)
  subst e
  rw [ZaK (a:=x) (b:=y) (by simpa using h2) (by simpa using k2)]
def lessK (a b:ByteArray):Bool:=Op.bytesLess a.toList b.toList
theorem Z8j:∀ (a b:List UInt8),(Lib.compareBytes a b < 0↔Op.bytesLess a b = true)∧(Lib.compareBytes a b = 0↔a = b)
 | [],[] => by simp [Lib.compareBytes,Op.bytesLess]
 | [],_::_ => by simp [Lib.compareBytes,Op.bytesLess]
 | _::_,[] => by simp [Lib.compareBytes,Op.bytesLess]
 | a::x,b::y => by
  obtain ⟨ih1,ih2⟩:=Z8j x y
  unfold Lib.compareBytes
  simp only [Op.bytesLess,Bool.or_eq_true,Bool.and_eq_true,decide_eq_true_iff,beq_iff_eq,List.cons.injEq]
  by_cases h1:a < b
  ·have h3:¬ a = b:=fun e => by subst e;exact absurd h1 (by rw [UInt8.lt_iff_toNat_lt];omega)
   rw [if_pos h1]
   exact ⟨by simp [h1],by simp [h3]⟩
  ·rw [if_neg h1]
   by_cases h2:b < a
   ·have h3:¬ a = b:=fun e => by subst e;exact absurd h2 (by rw [UInt8.lt_iff_toNat_lt];omega)
    rw [if_pos h2]
    exact ⟨by simp [h1,h3],by simp [h3]⟩
   ·rw [if_neg h2]
    have e:a = b:=by
     rw [UInt8.lt_iff_toNat_lt] at h1 h2
     exact UInt8.toNat_inj.mp (by omega)
    subst e
    exact ⟨by rw [ih1];simp [h1],by rw [ih2];simp⟩
theorem lt_tri (a b:ByteArray):lessK a b = true∨a = b∨lessK b a = true:=by
 cases h:lessK a b
 ·cases h':lessK b a
  ·exact .inr (.inl (toList_inj.1 (ZaK h h')))
  ·exact .inr (.inr rfl)
 ·exact .inl rfl
theorem Z2Z (a:ByteArray):lessK a a = false:=Z50 _
theorem Z1H {a b c:ByteArray} (h:lessK a b = true) (k:lessK b c = true):lessK a c = true:=Z1Y h k
theorem Z2p {xs:List S122} {n:Nat} {x:S122} {t:List S122} (h:xs.drop n = x::t):Z0k xs (n:Int) = x:=by
 unfold Z0k
 rw [Int.toNat_natCast]
 exact (Zi h).2.1 _
theorem Z9B {xs:List S122} {n:Nat} (h:n < xs.length):xs[n]? = some (Z0k xs (n:Int)):=by
 unfold Z0k
 rw [Int.toNat_natCast]
 exact ZdT h
theorem Zc8 {xs:List S119} {n:Nat} {x:S119} {t:List S119} (h:xs.drop n = x::t):ZX xs (n:Int) = x:=by
 unfold ZX
 rw [Int.toNat_natCast]
 exact (Zi h).2.1 _
theorem rdT119_get {xs:List S119} {n:Nat} (h:n < xs.length):xs[n]? = some (ZX xs (n:Int)):=by
 unfold ZX
 rw [Int.toNat_natCast]
 exact ZdT h
theorem Z34 {xs:List S162} {n:Nat} {x:S162} {t:List S162} (h:xs.drop n = x::t):ZS xs (n:Int) = x:=by
 unfold ZS
 rw [Int.toNat_natCast]
 exact (Zi h).2.1 _
theorem rdT162_get {xs:List S162} {n:Nat} (h:n < xs.length):xs[n]? = some (ZS xs (n:Int)):=by
 unfold ZS
 rw [Int.toNat_natCast]
 exact ZdT h
theorem Z4t {xs:List S147} {n:Nat} {x:S147} {t:List S147} (h:xs.drop n = x::t):Z1W xs (n:Int) = x:=by
 unfold Z1W
 rw [Int.toNat_natCast]
 exact (Zi h).2.1 _
theorem Z1G {xs:List S145} {n:Nat} {x:S145} {t:List S145} (h:xs.drop n = x::t):Za xs (n:Int) = x:=by
 unfold Za
 rw [Int.toNat_natCast]
 exact (Zi h).2.1 _
theorem Z0m (a b c:Int):ZD.f a b c = some (inR a b c):=by
 unfold ZD.f inR
 by_cases h:b≤a
 ·rw [if_pos h];simp [h]
 ·rw [if_neg h];simp [h]
theorem Z0j (a b c:Int):ZN.f a b c = some (inR a b c):=by
 unfold ZN.f inR
 by_cases h:b≤a
 ·rw [if_pos h];simp [h]
 ·rw [if_neg h];simp [h]
theorem Z9c (xs:List Int) (lo hi:Int) (hx:xs.length≤9223372036854775806):∀ (rest:List Int) (n:Nat),xs.drop n = rest →
  Ev (fun k => Z0O.l0 k xs lo hi (n:Int)) (rise lo hi (Z4e xs n) rest):=by
 intro rest
 induction rest with
 | nil =>
  intro n h
  have:=ZE h
  refine Ev.step (fun _ => rfl) ?_
  simp only [Z0O.l0]
  exact Ev.neg (by omega) (Ev.done (by cases n <;> rfl))
 | cons x t ih =>
  intro n h
  obtain ⟨h1,-,h3⟩:=Zi h
  have ih:=ih (n + 1) h3
  rw [Z7E h] at ih
  refine Ev.step (fun _ => rfl) ?_
  simp only [Z0O.l0,Z3c h,Z5 (show n≤9223372036854775806 by omega)]
  refine Ev.pos (by omega) (Ev.pos (by omega) (Ev.call (Z0m _ _ _) ?_))
  cases hb:inR x lo hi
  ·exact Ev.neg (by simp) (Ev.done (by cases n <;> simp [rise,Z4e,hb]))
  ·refine Ev.pos rfl ?_
   cases n with
   | zero => exact Ev.neg (by omega) (Ev.eq ih (by simp [rise,Z4e,hb]))
   | succ m =>
    refine Ev.pos (by omega) ?_
    simp only [Z2J (show m≤9223372036854775806 by omega)]
    refine Ev.pos (by omega) (Ev.pos (by omega) (Ev.ite (fun hc => Ev.done ?_) (fun hc => Ev.eq ih ?_)))
    ·simp only [Z4e,rise,hb,decide_eq_false (show ¬ rd xs (m:Int) < x by omega)];simp
    ·simp only [Z4e,rise,hb,decide_eq_true (show rd xs (m:Int) < x by omega)];simp
theorem Z6o (xs:List Int) (lo hi:Int) (hx:xs.length≤9223372036854775806):Ev (fun k => Z0O.f k xs lo hi) (rise lo hi none xs) :=
 Z9c xs lo hi hx xs 0 rfl
theorem ZcA (xs:List Int) (hx:xs.length≤9223372036854775806):Ev (fun k => Z45.f k xs) (Z4o xs):=by
 unfold Z45.f
 refine Ev.call (Z0m _ _ _) ?_
 cases hb:inR xs.length 1 4
 ·exact Ev.neg (by simp) (Ev.done (by simp [Z4o,hb]))
 ·exact Ev.pos rfl (Ev.bind (Z6o xs 1 4 hx) (Ev.done (by simp [Z4o,hb])))
theorem Zaz (xs:List Int) (hx:xs.length≤9223372036854775806):∀ (rest:List Int) (n:Nat),xs.drop n = rest →
  Ev (fun k => Z1u.l0 k xs xs (xs.length:Int) (n:Int)) (rise 1 4 (Z4e xs n) rest && inR xs.length 1 4):=by
 intro rest
 induction rest with
 | nil =>
  intro n h
  have:=ZE h
  refine Ev.step (fun _ => rfl) ?_
  simp only [Z1u.l0]
  exact Ev.neg (by omega) (Ev.call (Z0j _ _ _) (Ev.done (by cases n <;> simp [rise])))
 | cons x t ih =>
  intro n h
  obtain ⟨h1,-,h3⟩:=Zi h
  have ih:=ih (n + 1) h3
  rw [Z7E h] at ih
  refine Ev.step (fun _ => rfl) ?_
  simp only [Z1u.l0,Z3c h,Z5 (show n≤9223372036854775806 by omega)]
  refine Ev.pos (by omega) (Ev.pos (by omega) (Ev.pos (by omega) (Ev.call (Z0j _ _ _) ?_)))
  cases hb:inR x 1 4
  ·exact Ev.neg (by simp) (Ev.done (by cases n <;> simp [rise,Z4e,hb]))
  ·refine Ev.pos rfl ?_
   cases n with
   | zero => exact Ev.neg (by omega) (Ev.eq ih (by simp [rise,Z4e,hb]))
   | succ m =>
    refine Ev.pos (by omega) ?_
    simp only [Z2J (show m≤9223372036854775806 by omega)]
    refine Ev.pos (by omega) (Ev.pos (by omega) (Ev.ite (fun hc => Ev.done ?_) (fun hc => Ev.eq ih ?_)))
    ·simp only [Z4e,rise,hb,decide_eq_false (show ¬ rd xs (m:Int) < x by omega)];simp
    ·simp only [Z4e,rise,hb,decide_eq_true (show rd xs (m:Int) < x by omega)];simp
theorem ZcE (xs:List Int) (hx:xs.length≤9223372036854775806):Ev (fun k => Z1u.f k xs) (Z4o xs) :=
 Ev.eq (Zaz xs hx xs 0 rfl) (by rw [Z4o,Bool.and_comm];rfl)
theorem Zc7 (xs:List Int) (v:Int) (hx:xs.length≤9223372036854775806):∀ (rest:List Int) (n:Nat),xs.drop n = rest →
  Ev (fun k => Z20.l0 k xs v (n:Int)) (rest.contains v):=by
 intro rest
 induction rest with
 | nil =>
  intro n h
  have:=ZE h
  refine Ev.step (fun _ => rfl) ?_
  simp only [Z20.l0]
  exact Ev.neg (by omega) (Ev.done (by simp))
 | cons x t ih =>
  intro n h
  obtain ⟨h1,-,h3⟩:=Zi h
  refine Ev.step (fun _ => rfl) ?_
  simp only [Z20.l0,Z3c h,Z5 (show n≤9223372036854775806 by omega)]
  refine Ev.pos (by omega) (Ev.pos (by omega) (Ev.ite (fun hc => Ev.done ?_) (fun hc => Ev.eq (ih (n + 1) h3) ?_)))
  ·rw [List.contains_cons,hc];simp
  ·rw [List.contains_cons,beq_eq_false_iff_ne.2 (fun e => hc e.symm)];simp
theorem Ze5 (xs:List Int) (v:Int) (hx:xs.length≤9223372036854775806):Ev (fun k => Z20.f k xs v) (xs.contains v):=Zc7 xs v hx xs 0 rfl
theorem Zat:∀ (n:Nat) (acc:List Int),acc.length + n < 140737488355328 →
  Ev (fun k => ZP.l0 k (n:Int) acc) (strOfNums (acc++varL n)):=by
 intro n
 induction n using Nat.strongRecOn with
 | ind n ih =>
  intro acc h
  refine Ev.step (fun _ => rfl) ?_
  simp only [ZP.l0,tdiv128 n (by omega),tmod128 n]
  refine Ev.ite (fun hc => ?_) (fun hc => ?_)
  ·rw [Z4Y (by omega)]
   exact Ev.pos (by omega) (Ev.eq (ih (n / 128) (by omega) _ (by simp;omega)) (by simp))
  ·rw [Z3h (by omega)]
   exact Ev.pos (by omega) (Ev.done (by rw [Int.emod_eq_of_lt (by omega) (by omega)]))
theorem Z1C (n:Nat) (h:n≤34359738367):Ev (fun k => ZP.f k (n:Int)) (Zx n):=Zat n [] (by simp;omega)
theorem Z2H (n:Int) (h0:0≤n) (h:n≤34359738367):Ev (fun k => ZP.f k n) (Zx n.toNat):=by
 obtain ⟨m,rfl⟩:=Int.eq_ofNat_of_zero_le h0
 exact Z1C m (by omega)
theorem Z91:∀ (n:Nat) (acc:List Int),acc.length + n < 140737488355328 →
  Ev (fun k => Z0t.l0 k (n:Int) acc) (strOfNums (acc++varL n),true):=by
 intro n
 induction n using Nat.strongRecOn with
 | ind n ih =>
  intro acc h
  refine Ev.step (fun _ => rfl) ?_
  simp only [Z0t.l0,tdiv128 n (by omega),tmod128 n]
  refine Ev.ite (fun hc => ?_) (fun hc => ?_)
  ·rw [Z4Y (by omega)]
   exact Ev.pos (by omega) (Ev.eq (ih (n / 128) (by omega) _ (by simp;omega)) (by simp))
  ·rw [Z3h (by omega)]
   exact Ev.pos (by omega) (Ev.done (by rw [Int.emod_eq_of_lt (by omega) (by omega)]))
theorem Z5e (n:Int):Ev (fun k => Z0t.f k n) (Z5J n):=by
 unfold Z0t.f Z5J
 refine Ev.call (Z0j _ _ _) ?_
 cases hb:inR n 0 1000000000
 ·exact Ev.neg (by simp) (Ev.done (by simp))
 ·have:=Zr.1 hb
  obtain ⟨m,rfl⟩:=Int.eq_ofNat_of_zero_le this.1
  exact Ev.pos rfl (Ev.eq (Z91 m [] (by simp;omega)) (by simp [Zx]))
theorem Z4S (n:Nat) (h:n≤1000000000):Ev (fun k => Z0t.f k (n:Int)) (Zx n,true) :=
 Ev.eq (Z5e (n:Int)) (by rw [Z5J,if_pos (Zr.2 (by omega))];rfl)
theorem Zcy (xs:List Int) (hx:xs.length≤1048576):∀ (rest:List Int) (n:Nat) (acc:List Int),xs.drop n = rest→acc.length + 5 * rest.length < 140737488355328 →
  Ev (fun k => Z1E.l0 k acc xs (xs.length:Int) (n:Int)) (if rest.all (fun n => inR n 0 1000000000) = true then (strOfNums (acc++rest.flatMap fun n => varL n.toNat),true) else (⟨#[]⟩,false)):=by
 intro rest
 induction rest with
 | nil =>
  intro n acc h ha
  have:=ZE h
  refine Ev.step (fun _ => rfl) ?_
  simp only [Z1E.l0]
  exact Ev.neg (by omega) (Ev.done (by simp))
 | cons x t ih =>
  intro n acc h ha
  obtain ⟨h1,-,h3⟩:=Zi h
  refine Ev.step (fun _ => rfl) ?_
  simp only [Z1E.l0,Z3c h,Z5 (show n≤9223372036854775806 by omega)]
  refine Ev.pos (by omega) (Ev.pos (by omega) (Ev.pos (by omega) (Ev.bind (Z5e x) ?_)))
  unfold Z5J
  cases hb:inR x 0 1000000000
  ·exact Ev.neg (by simp) (Ev.done (by simp [hb]))
  ·have hr:=Zr.1 hb
   have hv:=Z2d (show x.toNat≤34359738367 by omega)
   simp only [if_true,Zx,strOfNums_size,Z1z _ (Z6W _)]
   rw [List.length_cons] at ha
   refine Ev.pos (by omega) (Ev.eq (ih (n + 1) (acc++varL x.toNat) h3 (by rw [List.length_append];omega)) ?_)
   simp [hb]
theorem Z9R (xs:List Int) (hx:xs.length≤1048576):Ev (fun k => Z1E.f k xs) (varsOf xs) :=
 Ev.eq (Zcy xs hx xs 0 [] rfl (by simp;omega)) (by simp [varsOf])
theorem Z59 (x:Int):Z2e.f x = some (four x):=rfl
theorem Z9j (s:ByteArray) (i:Nat) (hi:i≤9223372036854775806) (r:Int):∀ (d:Nat) (x:Int) (j:Nat),j + d = 8 →
  Ev (fun k => Z09.l0 k (Z6y d x) s ((i + 1:Nat):Int)) r→Ev (fun k => Z09.l1 k x s (i:Int) (j:Int)) r:=by
 intro d
 induction d with
 | zero =>
  intro x j hj h
  refine Ev.step (fun _ => rfl) ?_
  simp only [Z09.l1,Z5 hi]
  exact Ev.neg (by omega) h
 | succ d ih =>
  intro x j hj h
  refine Ev.step (fun _ => rfl) ?_
  simp only [Z09.l1,Z5 (show j≤9223372036854775806 by omega)]
  refine Ev.pos (by omega) (Ev.ite (fun hc => ih _ (j + 1) (by omega) ?_) (fun hc => ih _ (j + 1) (by omega) ?_))
  ·rw [Z6y,sumBit,if_pos hc] at h;exact h
  ·rw [Z6y,sumBit,if_neg hc] at h;exact h
theorem Z99 (s:ByteArray) (hs:s.size≤9223372036854775806):∀ (rest:List Int) (n:Nat) (x:Int),(bytesOf s).drop n = rest →
  Ev (fun k => Z09.l0 k x s (n:Int)) (Z93 x rest):=by
 intro rest
 induction rest with
 | nil =>
  intro n x h
  have:=Z3V h
  refine Ev.step (fun _ => rfl) ?_
  simp only [Z09.l0]
  exact Ev.neg (by omega) (Ev.done rfl)
 | cons b t ih =>
  intro n x h
  obtain ⟨h1,h2,h3,h4,h5⟩:=Z3C h
  refine Ev.step (fun _ => rfl) ?_
  simp only [Z09.l0,h2]
  exact Ev.pos (by omega) (Ev.pos (by omega) (Z9j s n (by omega) _ 8 _ 0 rfl (ih (n + 1) _ h3)))
theorem ZbM (x:Int) (s:ByteArray) (hs:s.size≤9223372036854775806):Ev (fun k => Z09.f k x s) (Z93 x (bytesOf s)):=Z99 s hs _ 0 x rfl
theorem Z67 (s:ByteArray) (hs:s.size≤9223372036854775806):Ev (fun k => Z3g.f k s) (sumOf s):=Ev.bind (ZbM _ s hs) (Ev.now _)
theorem Z8T (s:ByteArray) (i:Nat) (hi:i≤9223372036854775806) (r:Int):∀ (d:Nat) (x:Int) (j:Nat),j + d = 8 →
  Ev (fun k => Z0a.l0 k (Z6y d x) s ((i + 1:Nat):Int)) r→Ev (fun k => Z0a.l1 k x s (i:Int) (j:Int)) r:=by
 intro d
 induction d with
 | zero =>
  intro x j hj h
  refine Ev.step (fun _ => rfl) ?_
  simp only [Z0a.l1,Z5 hi]
  exact Ev.neg (by omega) h
 | succ d ih =>
  intro x j hj h
  refine Ev.step (fun _ => rfl) ?_
  simp only [Z0a.l1,Z5 (show j≤9223372036854775806 by omega)]
  refine Ev.pos (by omega) (Ev.ite (fun hc => ih _ (j + 1) (by omega) ?_) (fun hc => ih _ (j + 1) (by omega) ?_))
  ·rw [Z6y,sumBit,if_pos hc] at h;exact h
  ·rw [Z6y,sumBit,if_neg hc] at h;exact h
theorem Z9w (s:ByteArray) (hs:s.size≤9223372036854775806):∀ (rest:List Int) (n:Nat) (x:Int),(bytesOf s).drop n = rest →
  Ev (fun k => Z0a.l0 k x s (n:Int)) (Z93 x rest):=by
 intro rest
 induction rest with
 | nil =>
  intro n x h
  have:=Z3V h
  refine Ev.step (fun _ => rfl) ?_
  simp only [Z0a.l0]
  exact Ev.neg (by omega) (Ev.done rfl)
 | cons b t ih =>
  intro n x h
  obtain ⟨h1,h2,h3,h4,h5⟩:=Z3C h
  refine Ev.step (fun _ => rfl) ?_
  simp only [Z0a.l0,h2]
  exact Ev.pos (by omega) (Ev.pos (by omega) (Z8T s n (by omega) _ 8 _ 0 rfl (ih (n + 1) _ h3)))
theorem Zc1 (x:Int) (s:ByteArray) (hs:s.size≤9223372036854775806):Ev (fun k => Z0a.f k x s) (Z93 x (bytesOf s)):=Z9w s hs _ 0 x rfl
theorem Z7Y (s:ByteArray) (hs:s.size≤9223372036854775806):Ev (fun k => Z47.f k s) (sumOf s):=Ev.bind (Zc1 _ s hs) (Ev.now _)
theorem Z4a (s:ByteArray) (hs:s.size≤1152921504606846976):Ev (fun k => Z1O.f k s) (frame s):=by
 unfold Z1O.f frame
 refine Ev.call (Z0m _ _ _) ?_
 cases hb:inR (s.size:Int) 1 9000
 ·exact Ev.neg (by simp) (Ev.done (by simp))
 ·have hr:=Zr.1 hb
  have hv:=Z1f (show s.size≤34359738367 by omega)
  have h4:=Z3r (sumOf s)
  refine Ev.pos rfl (Ev.bind (Z1C _ (by omega)) (Ev.bind (Z67 s (by omega)) (Ev.call (Z59 _) ?_)))
  exact Ev.pos (by omega) (Ev.pos (by rw [size_append];omega) (Ev.done (by simp)))
theorem Z4W (s:ByteArray) (hs:s.size≤1152921504606846976):Ev (fun k => Z2X.f k s) (frame s):=by
 unfold Z2X.f frame
 refine Ev.call (Z0j _ _ _) ?_
 cases hb:inR (s.size:Int) 1 9000
 ·exact Ev.neg (by simp) (Ev.done (by simp))
 ·have hr:=Zr.1 hb
  have hv:=Z1f (show s.size≤34359738367 by omega)
  have h4:=Z3r (sumOf s)
  refine Ev.pos rfl (Ev.bind (Z4S _ (by omega)) (Ev.bind (Z7Y s (by omega)) (Ev.call rfl ?_)))
  rw [four] at h4
  exact Ev.pos (by dsimp only;omega) (Ev.pos (by rw [size_append];dsimp only;omega) (Ev.done (by simp [four])))
theorem Z3d (s:ByteArray) (hs:s.size≤1073741824):Ev (fun k => Z1D.f k s) (ZM s):=by
 have h:=Z1f (show s.size≤34359738367 by omega)
 exact Ev.bind (Z1C _ (by omega)) (Ev.pos (by omega) (Ev.now _))
theorem Z8V (s:ByteArray) (hs:s.size≤20000):Ev (fun k => Z3m.f k s) (ZM s,true):=by
 have h:=Z1f (show s.size≤34359738367 by omega)
 exact Ev.neg (by omega) (Ev.bind (Z4S _ (by omega)) (Ev.pos (by dsimp only;omega) (Ev.now _)))
theorem Z4Z (s:ByteArray) (hs:s.size≤20000):Ev (fun k => Z3f.f k s) (ZM s):=Ev.bind (Z8V s hs) (Ev.now _)
theorem Z97 (s:ByteArray) (a:Nat) (hs:s.size≤1152921504606846976) (ha:a≤s.size):∀ (k:Nat) (rest done:List Int) (i:Nat),i + k = 5→done.length = i→(bytesOf s).drop a = done++rest →
  Ev (fun K => ZA.l0 K s (a:Int) (val done:Int) ((128 ^ i:Nat):Int) ((a + i:Nat):Int))
   (match Z2Y k rest with | none => (0,0,false) | some bs => if val (done++bs)≤1000000000∧varL (val (done++bs)) = done++bs then ((val (done++bs):Int),((a + (done++bs).length:Nat):Int),true) else (0,0,false)):=by
 intro k
 have hz:=Ze s
 have no:∀ (x7 x8 x9:Int) r,r = (0,0,false)→Ev (fun K => ZA.j1 K s (a:Int) x7 x8 x9 false) r:=by
  rintro x7 x8 x9 r rfl
  refine Ev.step (fun _ => rfl) ?_
  simp only [ZA.j1]
  exact Ev.neg (by simp) (Ev.now _)
 induction k with
 | zero =>
  intro rest done i hi hd hr
  refine Ev.step (fun _ => rfl) ?_
  simp only [ZA.l0,Z9 (show -9223372036854775808≤(a:Int) + 5 by omega) (show (a:Int) + 5≤9223372036854775807 by omega)]
  refine Ev.ite (fun _ => ?_) (fun _ => no _ _ _ _ rfl)
  rw [decide_eq_false (by omega)]
  exact no _ _ _ _ rfl
 | succ k ih =>
  intro rest done i hi hd hr
  have hl:done.length + rest.length = s.size - a:=by rw [←List.length_append,←hr,List.length_drop,hz]
  cases rest with
  | nil =>
   refine Ev.step (fun _ => rfl) ?_
   simp only [ZA.l0]
   rw [List.length_nil] at hl
   exact Ev.neg (by omega) (no _ _ _ _ rfl)
  | cons b t =>
   have hbt:bt s ((a + i:Nat):Int) = b:=by
    rw [←Z6X,ZbS]
    have e:(bytesOf s).drop (a + i) = b::t:=by rw [←List.drop_drop,hr,List.drop_append_of_le_length (by omega),←hd,List.drop_length,List.nil_append]
    exact (Zi e).2.1 0
   have hb:=Z4k s b (by
    have:b∈(bytesOf s).drop a:=by rw [hr];simp
    exact List.mem_of_mem_drop this)
   rw [List.length_cons] at hl
   have hsc:=Z7D (show i≤5 by omega)
   have hvd:=val_lt done
   rw [hd] at hvd
   have e1:Int.tmod (wrap64 b) 128 = b % 128:=byte_mod hb.1 hb.2
   have hpos:0 < 128 ^ i:=Nat.pow_pos (by omega)
   have hmul:(b % 128) * ((128 ^ i:Nat):Int) = (((b % 128).toNat * 128 ^ i:Nat):Int):=by
    rw [Int.natCast_mul,Int.toNat_of_nonneg (by omega)]
   have hmb:(b % 128).toNat * 128 ^ i≤127 * 128 ^ i:=Nat.mul_le_mul_right _ (by omega)
   have e2:wrap64 ((val done:Int) + wrap64 (Int.tmod (wrap64 b) 128 * ((128 ^ i:Nat):Int))) = (val (done++[b]):Int):=by
    rw [e1,hmul,Z9 (n:=(((b % 128).toNat * 128 ^ i:Nat):Int)) (by omega) (by omega),Z9 (by omega) (by omega),Z8O,hd]
    rw [show val [b] = (b % 128).toNat by simp [val],Nat.mul_comm (128 ^ i)]
    omega
   have hval:val (done++[b]) < 128 ^ (i + 1):=by
    have:=val_lt (done++[b])
    rwa [List.length_append,hd] at this
   have hsc':=Z7D (show i + 1≤5 by omega)
   refine Ev.step (fun _ => rfl) ?_
   simp only [ZA.l0,Z9 (show -9223372036854775808≤(a:Int) + 5 by omega) (show (a:Int) + 5≤9223372036854775807 by omega)]
   rw [decide_eq_true (show ((a + i:Nat):Int) < (a:Int) + 5 by omega)]
   refine Ev.pos (by omega) (Ev.step (fun _ => rfl) ?_)
   simp only [ZA.j1,hbt,e2,Z5 (show a + i≤9223372036854775806 by omega)]
   refine Ev.pos trivial (Ev.pos (by omega) (Ev.pos (by omega) (Ev.ite (fun hlt => ?_) (fun hge => ?_))))
   ·rw [Z2Y,if_pos hlt]
    simp only []
    refine Ev.ite (fun hbig => Ev.done ?_) (fun hsmall => ?_)
    ·rw [if_neg (by omega)]
    ·have hex:(s.extract (a:Int).toNat ((a + i + 1:Nat):Int).toNat).toList = (strOfNums (done++[b])).toList:=by
      rw [ZcJ,Z0M,Int.toNat_natCast,Int.toNat_natCast,List.drop_take,hr,Z1z _ (by
       intro x hx
       refine Z4k s x ?_
       have:x∈(bytesOf s).drop a:=by rw [hr];rcases List.mem_append.1 hx with h | h <;> simp_all
       exact List.mem_of_mem_drop this)]
      rw [show a + i + 1 - a = done.length + 1 by omega]
      rw [List.take_append,List.take_of_length_le (by omega)]
      simp
     refine Ev.bind (Z1C _ (by omega)) (Ev.pos (by omega) (Ev.pos (by omega) (Ev.pos (by omega) ?_)))
     rw [hex]
     have hiff:(Zx (val (done++[b]))).toList = (strOfNums (done++[b])).toList↔varL (val (done++[b])) = done++[b]:=by
      rw [ZcJ,Z1p,Z1z _ (by
       intro x hx
       refine Z4k s x ?_
       have:x∈(bytesOf s).drop a:=by rw [hr];rcases List.mem_append.1 hx with h | h <;> simp_all
       exact List.mem_of_mem_drop this)]
     refine Ev.ite (fun hc => Ev.done ?_) (fun hc => Ev.done ?_)
     ·rw [if_pos ⟨by omega,hiff.1 hc⟩,List.length_append,hd];rfl
     ·rw [if_neg (fun h => hc (hiff.2 h.2))]
   ·have ih:=ih t (done++[b]) (i + 1) (by omega) (by simp [hd]) (by rw [hr];simp)
    rw [Z2Y,if_neg hge]
    have e3:wrap64 (((128 ^ i:Nat):Int) * 128) = ((128 ^ (i + 1):Nat):Int):=by
     rw [Z9 (by omega) (by omega),Nat.pow_succ,Int.natCast_mul];rfl
    rw [e3]
    refine Ev.eq ih ?_
    cases Z2Y k t with
    | none => rfl
    | some bs => simp only [Option.map_some,List.append_assoc,List.cons_append,List.nil_append]
theorem Z6s (s:ByteArray) (a:Int) (hs:s.size≤1152921504606846976):Ev (fun k => ZA.f k s a) (Zk s a):=by
 unfold ZA.f Zk
 refine Ev.call (Z0m _ _ _) ?_
 cases hb:inR a 0 s.size
 ·exact Ev.neg (by simp) (Ev.done (by simp))
 ·have hr:=Zr.1 hb
  obtain ⟨n,rfl⟩:=Int.eq_ofNat_of_zero_le hr.1
  refine Ev.pos rfl (Ev.eq (Z97 s n hs (by omega) 5 ((bytesOf s).drop n) [] 0 rfl rfl rfl) ?_)
  rw [if_pos rfl,Int.toNat_natCast,Z5U]
  cases Z2Y 5 ((bytesOf s).drop n) with
  | none => rfl
  | some bs =>
   simp only [List.nil_append]
   by_cases hc:val bs≤1000000000∧varL (val bs) = bs
   ·rw [if_pos hc,if_pos hc];simp
   ·rw [if_neg hc,if_neg hc]
theorem Z92 (s:ByteArray) (a:Nat) (hs:s.size≤1152921504606846976) (ha:a≤s.size):∀ (k:Nat) (rest done:List Int) (i:Nat),i + k = 5→done.length = i→(bytesOf s).drop a = done++rest→(∀ bs,Z2Y k rest = some bs→Z2Y 5 ((bytesOf s).drop a) = some (done++bs)) →
  Ev (fun K => Zu.l0 K s (a:Int) (val done:Int) (i:Int))
   (match Z2Y k rest with | none => (0,0,false) | some bs => if val (done++bs)≤1000000000∧varL (val (done++bs)) = done++bs then ((val (done++bs):Int),((a + (done++bs).length:Nat):Int),true) else (0,0,false)):=by
 intro k
 have hz:=Ze s
 have no:∀ (x7 x8:Int) r,r = (0,0,false)→Ev (fun K => Zu.j1 K s (a:Int) x7 x8 false) r:=by
  rintro x7 x8 r rfl
  refine Ev.step (fun _ => rfl) ?_
  simp only [Zu.j1]
  exact Ev.neg (by simp) (Ev.now _)
 induction k with
 | zero =>
  intro rest done i hi hd hr _
  refine Ev.step (fun _ => rfl) ?_
  simp only [Zu.l0]
  exact Ev.neg (by omega) (no _ _ _ rfl)
 | succ k ih =>
  intro rest done i hi hd hr hseg
  have hl:done.length + rest.length = s.size - a:=by rw [←List.length_append,←hr,List.length_drop,hz]
  cases rest with
  | nil =>
   refine Ev.step (fun _ => rfl) ?_
   simp only [Zu.l0]
   rw [List.length_nil] at hl
   refine Ev.pos (by omega) ?_
   rw [Z9 (by omega) (by omega),decide_eq_false (by omega)]
   exact no _ _ _ rfl
  | cons b t =>
   have e0:wrap64 ((a:Int) + (i:Int)) = ((a + i:Nat):Int):=by rw [Z9 (by omega) (by omega)];omega
   have hbt:bt s ((a + i:Nat):Int) = b:=by
    rw [←Z6X,ZbS]
    have e:(bytesOf s).drop (a + i) = b::t:=by rw [←List.drop_drop,hr,List.drop_append_of_le_length (by omega),←hd,List.drop_length,List.nil_append]
    exact (Zi e).2.1 0
   have hb:=Z4k s b (by
    have:b∈(bytesOf s).drop a:=by rw [hr];simp
    exact List.mem_of_mem_drop this)
   rw [List.length_cons] at hl
   have hsc:=Z7D (show i≤5 by omega)
   have hvd:=val_lt done
   rw [hd] at hvd
   have e1:Int.tmod (wrap64 b) 128 = b % 128:=byte_mod hb.1 hb.2
   have hmul:(b % 128) * ((128 ^ i:Nat):Int) = (((b % 128).toNat * 128 ^ i:Nat):Int):=by
    rw [Int.natCast_mul,Int.toNat_of_nonneg (by omega)]
   have hmb:(b % 128).toNat * 128 ^ i≤127 * 128 ^ i:=Nat.mul_le_mul_right _ (by omega)
   have hpos:0 < 128 ^ i:=Nat.pow_pos (by omega)
   have e7:wrap64 (7 * (i:Int)) = 7 * (i:Int):=Z9 (by omega) (by omega)
   have hshl:shl .i64 (b % 128) (7 * (i:Int)) = (b % 128) * ((128 ^ i:Nat):Int):=by
    have hp:(2:Int) ^ min (7 * (i:Int)).toNat (IntKind.bits .i64) = ((128 ^ i:Nat):Int):=by
     rcases i with _ | _ | _ | _ | _ | i
     ·rfl
     ·rfl
     ·rfl
     ·rfl
     ·rfl
     ·omega
    unfold shl
    rw [hp,i64_w]
    exact Z9 (by omega) (by omega)
   have e2:wrap64 ((val done:Int) + shl .i64 (Int.tmod (wrap64 b) 128) (wrap64 (7 * (i:Int)))) = (val (done++[b]):Int):=by
    rw [e1,e7,hshl,hmul,Z9 (by omega) (by omega),Z8O,hd]
    rw [show val [b] = (b % 128).toNat by simp [val],Nat.mul_comm (128 ^ i)]
    omega
   clear hsc hvd hmul hmb hpos hshl e1
   refine Ev.step (fun _ => rfl) ?_
   simp only [Zu.l0,e0]
   refine Ev.pos (by omega) ?_
   rw [decide_eq_true (show ((a + i:Nat):Int) < (s.size:Int) by omega)]
   refine Ev.step (fun _ => rfl) ?_
   simp only [Zu.j1,e0,hbt,e2,Z5 (show i≤9223372036854775806 by omega),Z5 (show a + i≤9223372036854775806 by omega)]
   rw [Z9 (n:=b) (by omega) (by omega)]
   refine Ev.pos trivial (Ev.pos (by omega) (Ev.pos (by omega) (Ev.pos (by rw [e7];omega) (Ev.ite (fun hlt => ?_) (fun hge => ?_)))))
   ·have hsg:=hseg [b] (by rw [Z2Y,if_pos hlt])
    have hck:=Zaa (fun x hx => Z4k s x (List.mem_of_mem_drop hx)) hsg
    rw [Z2Y,if_pos hlt]
    simp only []
    by_cases hbig:val (done++[b])≤1000000000
    ·refine Ev.bind (Z4S _ hbig) (Ev.pos rfl ?_)
     simp only [Zx,strOfNums_size]
     have hlen:(done++[b]).length = i + 1:=by simp [hd]
     refine Ev.ite (fun hc => Ev.done ?_) (fun hc => Ev.done ?_)
     ·rw [if_pos ⟨hbig,hck.1 (by omega)⟩,hlen];rfl
     ·rw [if_neg (fun h => hc (by have:=hck.2 h.2;omega))]
    ·refine Ev.bind (Ev.eq (Z5e _) (varTextOf_no (show ¬ ((val (done++[b]):Int)≤1000000000) by omega))) ?_
     refine Ev.neg (by simp) (Ev.done ?_)
     rw [if_neg (fun h => hbig h.1)]
   ·have ih:=ih t (done++[b]) (i + 1) (by omega) (by simp [hd]) (by rw [hr];simp) (fun bs hbs => by
     have:=hseg (b::bs) (by rw [Z2Y,if_neg hge,hbs];rfl)
     rw [this];simp)
    rw [Z2Y,if_neg hge]
    refine Ev.eq ih ?_
    cases Z2Y k t with
    | none => rfl
    | some bs => simp only [Option.map_some,List.append_assoc,List.cons_append,List.nil_append]
theorem Z5d (s:ByteArray) (a:Int) (hs:s.size≤1152921504606846976):Ev (fun k => Zu.f k s a) (Zk s a):=by
 unfold Zu.f Zk
 refine Ev.call (Z0j _ _ _) ?_
 cases hb:inR a 0 s.size
 ·exact Ev.neg (by simp) (Ev.done (by simp))
 ·have hr:=Zr.1 hb
  obtain ⟨n,rfl⟩:=Int.eq_ofNat_of_zero_le hr.1
  refine Ev.pos rfl (Ev.eq (Z92 s n hs (by omega) 5 ((bytesOf s).drop n) [] 0 rfl rfl rfl (fun bs h => h)) ?_)
  rw [if_pos rfl,Int.toNat_natCast,Z5U]
  cases Z2Y 5 ((bytesOf s).drop n) with
  | none => rfl
  | some bs =>
   simp only [List.nil_append]
   by_cases hc:val bs≤1000000000∧varL (val bs) = bs
   ·rw [if_pos hc,if_pos hc];simp
   ·rw [if_neg hc,if_neg hc]
theorem Z0c (s:ByteArray) (a:Int) (bad:Bool) (hs:s.size≤1152921504606846976):Ev (fun k => Z11.f k s a bad) (Z0e s a bad):=by
 unfold Z11.f Z0e
 refine Ev.bind (Z6s s a hs) (Ev.ite (fun h => Ev.done (by rw [if_pos h])) (fun h => Ev.ite (fun h' => Ev.done ?_) (fun h' => Ev.done ?_)))
 ·rw [if_neg h,if_pos h']
 ·rw [if_neg h,if_neg h']
theorem ZV (s:ByteArray) (a:Int) (bad:Bool) (hs:s.size≤1152921504606846976):Ev (fun k => ZK.f k s a bad) (Z0e s a bad):=by
 unfold ZK.f Z0e
 refine Ev.bind (Z5d s a hs) (Ev.ite (fun h => Ev.done (by rw [if_pos h])) (fun h => Ev.ite (fun h' => Ev.done ?_) (fun h' => Ev.done ?_)))
 ·rw [if_neg h,if_pos h']
 ·rw [if_neg h,if_neg h']
theorem Z5i (s:ByteArray) (a n:Int) (bad:Bool) (hs:s.size≤1152921504606846976) (h0:0≤a) (h1:a≤s.size) (hn:0≤n) (hn':n≤1152921504606846976):Z2A.f s a bad n = some (Z2q s a bad n):=by
 unfold Z2A.f Z2q
 by_cases h:bad = true
 ·rw [if_pos h,if_pos h]
 ·rw [if_neg h,if_neg h,Z9 (n:=(s.size:Int) - a) (by omega) (by omega),Z9 (n:=a + n) (by omega) (by omega),show a + n - n = a by omega,Z9 (n:=a) (by omega) (by omega)]
  by_cases hc:n > (s.size:Int) - a
  ·rw [if_pos hc,if_pos hc]
  ·rw [if_neg hc,if_neg hc,if_pos (by omega),if_pos (by omega),if_pos (by omega)]
theorem Z57 (s:ByteArray) (a:Int) (bad:Bool) (hs:s.size≤1152921504606846976) (h0:0≤a) (h1:a≤s.size):Z26.f s a bad = some (Z2u s a bad):=by
 unfold Z26.f Z2u
 by_cases h:bad = true
 ·rw [if_pos h,if_pos h]
 ·rw [if_neg h,if_neg h,Z9 (n:=a + 1) (by omega) (by omega),show a + 1 - 1 = a by omega,Z9 (n:=a) (by omega) (by omega)]
  by_cases hc:a≥(s.size:Int)
  ·rw [if_pos hc,if_pos hc]
  ·have:=ZdR s a
   rw [if_neg hc,if_neg hc,if_pos (by omega),if_pos (by omega),Z9 (n:=bt s a) (by omega) (by omega)]
theorem Z2S (s:ByteArray) (a:Int) (bad:Bool) (hs:s.size≤1152921504606846976) (h0:0≤a) (h1:a≤s.size):Ev (fun k => Z1y.f k s a bad) (Z2s s a bad):=by
 unfold Z1y.f Z2s
 have hp:=Z0E (s:=s) (a:=a) (bad:=bad) h0 h1
 have hn:=Z3J s a bad
 refine Ev.bind (Z0c s a bad hs) ?_
 simp only [Z12]
 exact Ev.call (Z5i s _ _ _ hs hp.1 hp.2 hn.1 (by omega)) (Ev.now _)
theorem Z8N (s:ByteArray) (a:Int) (hs:s.size≤1152921504606846976):Ev (fun k => Z2I.f k s a) (Z4d s a):=by
 unfold Z2I.f Z4d
 refine Ev.bind (Z5d s a hs) (Ev.ite (fun h => ?_) (fun h => Ev.done (by rw [if_neg h])))
 have hr:=Z2x (s:=s) (a:=a) (n:=(Zk s a).1) (b:=(Zk s a).2.1) (by rw [←h])
 rw [if_pos h,Z9 (n:=(s.size:Int) - (Zk s a).2.1) (by omega) (by omega)]
 refine Ev.ite (fun h2 => Ev.done (by rw [if_pos h2])) (fun h2 => Ev.ite (fun h3 => Ev.done (by rw [if_neg h2,if_pos h3])) (fun h3 => ?_))
 rw [if_neg h2,if_neg h3,Z9 (n:=(Zk s a).2.1 + (Zk s a).1) (by omega) (by omega)]
 exact Ev.pos (by omega) (Ev.pos (by omega) (Ev.pos (by omega) (Ev.now _)))
theorem Z33 (s:ByteArray) (a:Int) (bad:Bool) (hs:s.size≤1152921504606846976):Ev (fun k => Z1J.f k s a bad) (Z1T s a bad):=by
 unfold Z1J.f Z1T
 refine Ev.bind (Z8N s a hs) (Ev.ite (fun h => Ev.done (by rw [if_pos h])) (fun h => Ev.ite (fun h' => Ev.done ?_) (fun h' => Ev.done ?_)))
 ·rw [if_neg h,if_pos h']
 ·rw [if_neg h,if_neg h']
theorem Z5h (s:ByteArray) (a:Int) (bad:Bool):Z23.f s a bad = some (!bad && (a == (s.size:Int)),s,a,bad):=by
 unfold Z23.f
 cases bad <;> simp
def Cur (l:List Int) (i:Int):Prop:=0≤i∧i≤l.length
def Cu (l s:List Int) (i:Int):Prop:=s = l∧Cur l i
theorem and255 (x:Int):0≤Go.bits .and .i64 x 255∧Go.bits .and .i64 x 255≤255:=by
 have h:(BitVec.ofInt 64 x &&& BitVec.ofInt 64 255).toNat≤255:=by
  rw [BitVec.toNat_and]
  exact Nat.le_trans Nat.and_le_right (by decide)
 have e:Go.bits .and .i64 x 255 = (((BitVec.ofInt 64 x &&& BitVec.ofInt 64 255).toNat:Nat):Int):=by
  show IntKind.i64.wrap (((BitVec.ofInt 64 x &&& BitVec.ofInt 64 255).toNat:Nat):Int) = _
  rw [IntKind.wrap_i64]
  omega
 rw [e];omega
theorem rdOf_mem {α:Type} {z:α} {xs:List α} {b:Int} (h0:0≤b) (h1:b < xs.length):rdOf z xs b∈xs:=by
 obtain ⟨n,rfl⟩:=Int.eq_ofNat_of_zero_le h0
 rw [rdOf,Int.toNat_natCast,List.getD_eq_getElem?_getD,List.getElem?_eq_getElem (by omega)]
 simp
theorem Zay (l:List Int) (hl:l.length≤140737488351232):∀ (m n:Nat) (y:Int),l.length - n≤m→n≤l.length→To (fun k => Z1n.l0 k l y (n:Int)) (fun r => Cu l r.1 r.2.1):=by
 have fin:∀ y:Int,Cu l (l,(0:Int),y).1 (l,(0:Int),y).2.1:=fun y => ⟨rfl,Int.le_refl _,by dsimp only;omega⟩
 intro m
 induction m with
 | zero =>
  intro n y h h1
  refine To.step (fun _ => rfl) ?_
  simp only [Z1n.l0]
  exact To.neg (by omega) (To.now (fin _))
 | succ m ih =>
  intro n y h h1
  refine To.step (fun _ => rfl) ?_
  simp only [Z1n.l0,Z5 (show n≤9223372036854775806 by omega)]
  exact To.ite (fun h2 => To.ite (fun h3 => To.pos (by omega) (ih (n + 1) _ (by omega) (by omega))) (fun _ => To.now (fin _))) (fun _ => To.now (fin _))
theorem Z7i (l:List Int) (hl:l.length≤140737488351232):To (fun k => Z1n.f k l) (fun r => Cu l r.1 r.2.1) :=
 Zay l hl l.length 0 _ (by omega) (by omega)
theorem Z2r {l:List Int} (hl:l.length≤140737488351232) {s:List Int} {i:Int} (y:Int) (h:Cu l s i):To (fun _ => Z1a.f s i y) (fun r => 0≤r.1∧r.1≤255∧Cu l r.2.1 r.2.2.1):=by
 obtain ⟨rfl,h⟩:=h
 unfold Z1a.f
 refine To.ite (fun c => To.pos h.1 (To.now ⟨(and255 _).1,(and255 _).2,rfl,?_⟩)) (fun c => To.now ⟨(and255 _).1,(and255 _).2,rfl,h⟩)
 have:=h.1
 simp only [Cur]
 rw [Z9 (by omega) (by omega)]
 omega
theorem Z1r {l:List Int} (hl:l.length≤140737488351232) {s:List Int} {i:Int} (y:Int) (h:Cu l s i) (n:Int):To (fun _ => Z0o.f s i y n) (fun r => 0≤r.1∧(0 < n→r.1 < n)∧Cu l r.2.1 r.2.2.1):=by
 unfold Z0o.f
 refine To.ite (fun c => To.now ⟨Int.le_refl _,fun c' => by omega,h⟩) (fun c => To.ite (fun _ => ?_) (fun _ => ?_))
 ·exact To.bind (Z2r hl y h) (fun r p => To.pos (by omega) (To.now ⟨Int.tmod_nonneg _ p.1,fun c => Int.tmod_lt_of_pos _ c,p.2.2⟩))
 ·refine To.bind (Z2r hl y h) (fun r1 p1 => To.bind (Z2r hl _ p1.2.2) (fun r2 p2 => To.bind (Z2r hl _ p2.2.2) (fun r3 p3 => To.bind (Z2r hl _ p3.2.2) (fun r4 p4 => To.pos (by omega) (To.now ⟨Int.tmod_nonneg _ ?_,fun c => Int.tmod_lt_of_pos _ c,p4.2.2⟩)))))
  have q1:=p1.1;have q2:=p2.1;have q3:=p3.1;have q4:=p4.1
  have s1:=p1.2.1;have s2:=p2.2.1;have s3:=p3.2.1;have s4:=p4.2.1
  generalize r1.1 = a at *;generalize r2.1 = b at *;generalize r3.1 = c at *;generalize r4.1 = d at *
  rw [Z9 (n:=a * 16777216) (by omega) (by omega),Z9 (n:=b * 65536) (by omega) (by omega),Z9 (n:=c * 256) (by omega) (by omega),Z9 (n:=a * 16777216 + b * 65536) (by omega) (by omega),Z9 (n:=a * 16777216 + b * 65536 + c * 256) (by omega) (by omega),Z9 (by omega) (by omega)]
  omega
theorem Z4f {l:List Int} (hl:l.length≤140737488351232) {s:List Int} {i:Int} (y:Int) (h:Cu l s i) (n:Int):To (fun _ => Z0I.f s i y n) (fun r => Cu l r.2.1 r.2.2.1):=by
 unfold Z0I.f
 exact To.bind (Z1r hl y h n) (fun r p => To.now p.2.2)
theorem Zbd {l:List Int} (hl:l.length≤140737488351232) {s:List Int} {i:Int} (y:Int) (h:Cu l s i) (xs:List ByteArray) (hx:0 < xs.length):To (fun _ => Z3v.f s i y xs) (fun r => r.1∈xs∧Cu l r.2.1 r.2.2.1):=by
 unfold Z3v.f
 exact To.bind (Z1r hl y h _) (fun r p => To.pos p.1 (To.pos (p.2.1 (by omega)) (To.now ⟨rdOf_mem p.1 (p.2.1 (by omega)),p.2.2⟩)))
theorem Z9N (a v:Int) (h1:a≤1000000):∀ (m n:Nat) (xs:List Int),(xs.length:Int) = a→a.toNat - n≤m→n≤a.toNat→To (fun k => Z17.l0 k a v xs (n:Int)) (fun r => (r.size:Int) = a):=by
 intro m
 induction m with
 | zero =>
  intro n xs hx h2 h3
  refine To.step (fun _ => rfl) ?_
  simp only [Z17.l0]
  exact To.neg (by omega) (To.now (by rw [strOfNums_size];exact hx))
 | succ m ih =>
  intro n xs hx h2 h3
  refine To.step (fun _ => rfl) ?_
  simp only [Z17.l0,Z5 (show n≤9223372036854775806 by omega)]
  exact To.ite (fun c => To.pos (by omega) (To.pos (by omega) (ih (n + 1) _ (by rw [List.length_set];exact hx) (by omega) (by omega)))) (fun _ => To.now (by rw [strOfNums_size];exact hx))
theorem Zb2 (a v:Int) (h0:0≤a) (h1:a≤1000000):To (fun k => Z17.f k a v) (fun r => (r.size:Int) = a):=by
 unfold Z17.f
 exact To.pos h0 (To.pos (by omega) (Z9N a v h1 a.toNat 0 _ (by rw [List.length_replicate];omega) (by omega) (by omega)))
theorem ZdL (lo hi:Int):∀ (l:List Int) (p:Option Int) (x:Int),rise lo hi p l = true→(∀ y∈l,y < x)→(∀ q,p = some q→q < x)→lo≤x→x≤hi→rise lo hi p (l++[x]) = true
 | [],none,x,_,_,_,h1,h2 => by simp only [List.nil_append,rise];rw [Zr.2 ⟨h1,h2⟩];rfl
 | [],some q,x,_,_,h,h1,h2 => by simp only [List.nil_append,rise];rw [Zr.2 ⟨h1,h2⟩,decide_eq_true (h q rfl)];rfl
 | y::t,none,x,hr,hl,_,h1,h2 => by
  simp only [rise,Bool.and_eq_true] at hr
  rw [List.cons_append,rise,hr.1,ZdL lo hi t (some y) x hr.2 (fun z hz => hl z (List.mem_cons_of_mem _ hz)) (fun q e => by injection e with e;rw [←e];exact hl y List.mem_cons_self) h1 h2];rfl
 | y::t,some p,x,hr,hl,_,h1,h2 => by
  simp only [rise,Bool.and_eq_true] at hr
  rw [List.cons_append,rise,hr.1,hr.2.1,ZdL lo hi t (some y) x hr.2.2 (fun z hz => hl z (List.mem_cons_of_mem _ hz)) (fun q e => by injection e with e;rw [←e];exact hl y List.mem_cons_self) h1 h2];rfl
theorem Z9y {l:List Int} (hl:l.length≤140737488351232):∀ (m n:Nat) (acc s:List Int) (i y:Int),5 - n≤m→1≤n→n≤5→acc.length < n→rise 1 4 none acc = true→(∀ x∈acc,x < (n:Int))→Cu l s i →
  To (fun k => Z1b.l0 k acc (n:Int) s i y) (fun r => Z4o r.1 = true∧Cu l r.2.1 r.2.2.1):=by
 have fin:∀ acc:List Int,acc.length < 5→rise 1 4 none acc = true→¬ (acc.length:Int) = 0→Z4o acc = true:=fun acc h hr hn => by
  rw [Z4o,hr,Zr.2 (by omega)];rfl
 have fin0:∀ acc:List Int,(acc.length:Int) = 0→Z4o (acc++[1]) = true:=fun acc h => by
  obtain rfl:acc = []:=List.length_eq_zero_iff.1 (by omega)
  rfl
 intro m
 induction m with
 | zero =>
  intro n acc s i y h1 h2 h3 h4 hr hx h
  refine To.step (fun _ => rfl) ?_
  simp only [Z1b.l0]
  exact To.neg (by omega) (To.ite (fun c => To.pos (by omega) (To.now ⟨fin0 acc c,h⟩)) (fun c => To.now ⟨fin acc (by omega) hr c,h⟩))
 | succ m ih =>
  intro n acc s i y h1 h2 h3 h4 hr hx h
  refine To.step (fun _ => rfl) ?_
  simp only [Z1b.l0,Z5 (show n≤9223372036854775806 by omega)]
  refine To.ite (fun c => To.bind (Z4f hl y h 2) (fun r p => To.ite (fun _ => To.pos (by omega) ?_) (fun _ => ?_))) (fun c => To.ite (fun c => To.pos (by omega) (To.now ⟨fin0 acc c,h⟩)) (fun c => To.now ⟨fin acc (by omega) hr c,h⟩))
  ·refine ih (n + 1) _ _ _ _ (by omega) (by omega) (by omega) (by simp only [List.length_append,List.length_singleton];omega) (ZdL 1 4 acc none n hr hx (fun q e => by cases e) (by omega) (by omega)) (fun x hx' => ?_) p
   rcases List.mem_append.1 hx' with hx' | hx'
   ·have:=hx x hx';omega
   ·have:=List.mem_singleton.1 hx';omega
  ·exact ih (n + 1) _ _ _ _ (by omega) (by omega) (by omega) (by omega) hr (fun x hx' => by have:=hx x hx';omega) p
theorem ZaN {l:List Int} (hl:l.length≤140737488351232) {s:List Int} {i:Int} (y:Int) (h:Cu l s i):To (fun k => Z1b.f k s i y) (fun r => Z4o r.1 = true∧Cu l r.2.1 r.2.2.1) :=
 Z9y hl 4 1 [] s i y (by omega) (by omega) (by omega) (by simp) rfl (fun x hx => by cases hx) h
theorem Z5z (s:ByteArray):Z2n.f s = some (inR s.size 1 10):=by
 unfold Z2n.f;rw [Z0m];rfl
theorem Z81 (s:ByteArray):Z3H.f s = some (inR s.size 1 10):=by
 unfold Z3H.f;rw [Z0j];rfl
def Z8k (x:S145):Bool:=inR x.f0.size 1 10 && (inR x.f1 0 999 && (inR x.f2 0 20000 && inR x.f3 0 40))
def Z6Q:Option ByteArray→ByteArray→Bool
 | none,_ => true
 | some q,s => Op.bytesLess q.toList s.toList
def dirIn:Option ByteArray→List S145→Bool
 | _,[] => true
 | p,x::t => Z8k x && (Z6Q p x.f0 && dirIn (some x.f0) t)
def dirOk (l:List S145):Bool:=decide (l.length≤60) && dirIn none l
def keyOf (xs:List S145):Nat→Option ByteArray
 | 0 => none
 | n + 1 => some (Za xs (n:Int)).f0
theorem dirIn_mem:∀ {l:List S145} {p:Option ByteArray},dirIn p l = true→∀ x∈l,Z8k x = true
 | [],_,_,x,hx => by cases hx
 | y::t,p,h,x,hx => by
  rw [dirIn,Bool.and_eq_true,Bool.and_eq_true] at h
  rcases List.mem_cons.1 hx with rfl | hx
  ·exact h.1
  ·exact dirIn_mem h.2.2 x hx
theorem Zcf (l:List S145) (hl:l.length≤3000000):∀ (rest:List S145) (n:Nat),l.drop n = rest→Ev (fun k => Z1j.l0 k l (n:Int)) (dirIn (keyOf l n) rest):=by
 intro rest
 induction rest with
 | nil =>
  intro n h
  have:=ZE h
  refine Ev.step (fun _ => rfl) ?_
  simp only [Z1j.l0]
  exact Ev.neg (by omega) (Ev.done (by simp [dirIn]))
 | cons x t ih =>
  intro n h
  obtain ⟨h1,-,h3⟩:=Zi h
  have hk:keyOf l (n + 1) = some x.f0:=by rw [keyOf,Z1G h]
  have ih:=ih (n + 1) h3
  rw [hk] at ih
  have tail:∀ r,r = (inR x.f1 0 999 && (inR x.f2 0 20000 && (inR x.f3 0 40 && dirIn (some x.f0) t)))→Ev (fun k => (ZD.f x.f1 0 999).bind fun t1 => (if t1 = true then ((ZD.f x.f2 0 20000).bind fun t2 => (if t2 = true then ((ZD.f x.f3 0 40).bind fun t3 => (if t3 = true then (Z1j.l0 k l ((n + 1:Nat):Int)) else (some false))) else (some false))) else (some false))) r:=by
   rintro r rfl
   refine Ev.call (Z0m _ _ _) ?_
   cases inR x.f1 0 999
   ·exact Ev.neg (by simp) (Ev.done (by simp))
   refine Ev.pos rfl (Ev.call (Z0m _ _ _) ?_)
   cases inR x.f2 0 20000
   ·exact Ev.neg (by simp) (Ev.done (by simp))
   refine Ev.pos rfl (Ev.call (Z0m _ _ _) ?_)
   cases inR x.f3 0 40
   ·exact Ev.neg (by simp) (Ev.done (by simp))
   exact Ev.pos rfl (Ev.eq ih (by simp))
  refine Ev.step (fun _ => rfl) ?_
  simp only [Z1j.l0,Z1G h,Z5 (show n≤9223372036854775806 by omega)]
  refine Ev.pos (by omega) (Ev.pos (by omega) (Ev.call (Z5z _) ?_))
  rw [dirIn,Z8k]
  cases h0:inR x.f0.size 1 10
  ·exact Ev.neg (by simp) (Ev.done (by simp))
  refine Ev.pos rfl ?_
  cases n with
  | zero => exact Ev.neg (by omega) (tail _ (by simp [keyOf,Z6Q,Bool.and_assoc]))
  | succ m =>
   simp only [Z2J (show m≤9223372036854775806 by omega)]
   refine Ev.pos (by omega) (Ev.pos (by omega) (Ev.pos (by omega) (Ev.ite (fun hc => tail _ ?_) (fun hc => Ev.done ?_))))
   ·simp only [keyOf,Z6Q,hc];simp [Bool.and_assoc]
   ·simp only [keyOf,Z6Q,Bool.eq_false_iff.2 hc];simp
theorem Z88 (l:List S145) (hl:l.length≤3000000):Ev (fun k => Z1j.f k l) (dirOk l):=by
 unfold Z1j.f dirOk
 refine Ev.ite (fun hc => Ev.done ?_) (fun hc => Ev.eq (Zcf l hl l 0 rfl) ?_)
 ·rw [decide_eq_false (show ¬ l.length≤60 by omega)];rfl
 ·rw [decide_eq_true (show l.length≤60 by omega)];rfl
theorem Zbj (l:List S145) (hl:l.length≤3000000):∀ (rest:List S145) (n:Nat),l.drop n = rest→Ev (fun k => Z1h.l0 k l l (l.length:Int) (n:Int)) (decide (l.length≤60) && dirIn (keyOf l n) rest):=by
 intro rest
 induction rest with
 | nil =>
  intro n h
  have:=ZE h
  refine Ev.step (fun _ => rfl) ?_
  simp only [Z1h.l0]
  refine Ev.neg (by omega) (Ev.done ?_)
  rw [dirIn,Bool.and_true]
  exact decide_eq_decide.2 (by omega)
 | cons x t ih =>
  intro n h
  obtain ⟨h1,-,h3⟩:=Zi h
  have hk:keyOf l (n + 1) = some x.f0:=by rw [keyOf,Z1G h]
  have ih:=ih (n + 1) h3
  rw [hk] at ih
  refine Ev.step (fun _ => rfl) ?_
  simp only [Z1h.l0,Z1G h,Z5 (show n≤9223372036854775806 by omega)]
  refine Ev.pos (by omega) (Ev.pos (by omega) (Ev.pos (by omega) (Ev.call (Z81 _) ?_)))
  rw [dirIn,Z8k]
  cases h0:inR x.f0.size 1 10
  ·exact Ev.neg (by simp) (Ev.done (by simp))
  refine Ev.pos rfl (Ev.call (Z0j _ _ _) ?_)
  cases inR x.f1 0 999
  ·exact Ev.neg (by simp) (Ev.done (by simp))
  refine Ev.pos rfl (Ev.call (Z0j _ _ _) ?_)
  cases inR x.f2 0 20000
  ·exact Ev.neg (by simp) (Ev.done (by simp))
  refine Ev.pos rfl (Ev.call (Z0j _ _ _) ?_)
  cases inR x.f3 0 40
  ·exact Ev.neg (by simp) (Ev.done (by simp))
  refine Ev.pos rfl ?_
  cases n with
  | zero => exact Ev.neg (by omega) (Ev.eq ih (by simp [keyOf,Z6Q]))
  | succ m =>
   simp only [Z2J (show m≤9223372036854775806 by omega)]
   refine Ev.pos (by omega) (Ev.pos (by omega) (Ev.pos (by omega) (Ev.ite (fun hc => Ev.eq ih ?_) (fun hc => Ev.done ?_))))
   ·simp only [keyOf,Z6Q,hc];simp
   ·simp only [keyOf,Z6Q,Bool.eq_false_iff.2 hc];simp
theorem Z62 (l:List S145) (hl:l.length≤3000000):Ev (fun k => Z1h.f k l) (dirOk l) :=
 Zbj l hl l 0 rfl
def sealT (s:ByteArray):ByteArray×Bool:=if s.size > 20000 then (⟨#[]⟩,false) else (s++four (sumOf s),true)
theorem Zcp (s:ByteArray) (hs:s.size≤1152921504606846976):Ev (fun k => Z43.f k s) (sealT s):=by
 unfold Z43.f sealT
 have h4:=Z3r (sumOf s)
 refine Ev.ite (fun hc => Ev.done ?_) (fun hc => Ev.bind (Z67 s (by omega)) (Ev.call (Z59 _) (Ev.pos (by omega) (Ev.done ?_))))
 ·rw [if_pos (show s.size > 20000 by omega)]
 ·rw [if_neg (show ¬ s.size > 20000 by omega)]
theorem Z7j (s:ByteArray) (hs:s.size≤1152921504606846976):Ev (fun k => Z38.f k s) (sealT s):=by
 unfold Z38.f sealT
 have h4:=Z3r (sumOf s)
 refine Ev.ite (fun hc => Ev.done ?_) (fun hc => Ev.bind (Z7Y s (by omega)) (Ev.call rfl ?_))
 ·rw [if_pos (show s.size > 20000 by omega)]
 ·rw [if_neg (show ¬ s.size > 20000 by omega)]
  rw [four] at h4
  exact Ev.pos (by omega) (Ev.done rfl)
def Z0H (s:ByteArray) (a:Int):Option (ByteArray×Int) :=
 if (Zk s a).2.2 = false then none else
 if (Zk s a).1 > (s.size:Int) - (Zk s a).2.1 - 4 then none else
 if (frame (s.extract ((Zk s a).2.1 + 4).toNat ((Zk s a).2.1 + 4 + (Zk s a).1).toNat)).2 = true∧(frame (s.extract ((Zk s a).2.1 + 4).toNat ((Zk s a).2.1 + 4 + (Zk s a).1).toNat)).1 = s.extract a.toNat ((Zk s a).2.1 + 4 + (Zk s a).1).toNat
 then some (s.extract ((Zk s a).2.1 + 4).toNat ((Zk s a).2.1 + 4 + (Zk s a).1).toNat,(Zk s a).2.1 + 4 + (Zk s a).1) else none
def unfr (s:ByteArray):Nat→List ByteArray→Int→List ByteArray×Int
 | 0,acc,a => (acc,a)
 | m + 1,acc,a => match Z0H s a with
  | none => (acc,a)
  | some (c,b) => unfr s m (acc++[c]) b
def Z00 (s:ByteArray):List ByteArray×Int:=if s.size > 20000 then ([],0) else unfr s (s.size + 1) [] 0
theorem Z4J {s:ByteArray} {a b:Int} {c:ByteArray} (h:Z0H s a = some (c,b)):0≤a∧a < b∧b≤s.size∧c.size≤9000:=by
 unfold Z0H at h
 split at h
 ·cases h
 split at h
 ·cases h
 split at h
 ·rename_i h1 h2 h3
  simp only [Option.some.injEq,Prod.mk.injEq] at h
  obtain ⟨rfl,rfl⟩:=h
  have hr:Zk s a = ((Zk s a).1,(Zk s a).2.1,true):=by
   have:(Zk s a).2.2 = true:=by cases hb:(Zk s a).2.2 <;> simp_all
   rw [←this]
  obtain ⟨p1,p2,p3,p4,p5,p6,-,-⟩:=Z2x hr
  refine ⟨p1,by omega,by omega,?_⟩
  have h4:=h3.1
  unfold frame at h4
  split at h4
  ·rename_i h5
   have:=Zr.1 h5
   omega
  ·simp at h4
 ·cases h
theorem Z5V (s:ByteArray):∀ (m:Nat) (acc:List ByteArray) (a:Int),0≤a→a≤s.size→(acc.length:Int)≤a→(∀ c∈acc,c.size≤9000) →
  (0≤(unfr s m acc a).2∧(unfr s m acc a).2≤s.size)∧((unfr s m acc a).1.length:Int)≤(unfr s m acc a).2∧∀ c∈(unfr s m acc a).1,c.size≤9000
 | 0,acc,a,h0,h1,h2,h3 => ⟨⟨h0,h1⟩,h2,h3⟩
 | m + 1,acc,a,h0,h1,h2,h3 => by
  rw [unfr]
  cases hs:Z0H s a with
  | none => exact ⟨⟨h0,h1⟩,h2,h3⟩
  | some x =>
   obtain ⟨c,b⟩:=x
   obtain ⟨p1,p2,p3,p4⟩:=Z4J hs
   refine Z5V s m (acc++[c]) b (by omega) p3 (by simp only [List.length_append,List.length_singleton];omega) ?_
   intro d hd
   rcases List.mem_append.1 hd with hd | hd
   ·exact h3 d hd
   ·rw [List.mem_singleton] at hd;rw [hd];exact p4
theorem Z2g (s:ByteArray):(Z00 s).1.length≤20000∧∀ c∈(Z00 s).1,c.size≤9000:=by
 unfold Z00
 split
 ·exact ⟨by simp,fun c hc => by cases hc⟩
 ·obtain ⟨h1,h2,h3⟩:=Z5V s (s.size + 1) [] 0 (by omega) (by omega) (by simp) (fun c hc => by cases hc)
  exact ⟨by omega,h3⟩
theorem Z7x {s:ByteArray} {a:Int} (h:(Zk s a).2.2 = true):Zk s a = ((Zk s a).1,(Zk s a).2.1,true):=by
 rw [←h]
theorem Z8Z (s:ByteArray) (hs:s.size≤20000):∀ (m:Nat) (acc:List ByteArray) (a:Int),0≤a→a≤s.size→(acc.length:Int)≤a→(s.size:Int) - a < m→Ev (fun k => ZQ.l0 k s acc a) (unfr s m acc a):=by
 intro m
 induction m with
 | zero => intro acc a h0 h1 h2 h3;omega
 | succ m ih =>
  intro acc a h0 h1 h2 h3
  refine Ev.step (fun _ => rfl) ?_
  simp only [ZQ.l0]
  rw [unfr]
  refine Ev.ite (fun hc => Ev.bind (Z6s s a (by omega)) ?_) (fun hc => Ev.done ?_)
  ·cases hb:(Zk s a).2.2
   ·have e:Z0H s a = none:=by rw [Z0H,if_pos hb]
    refine Ev.neg (by simp) (Ev.step (fun _ => rfl) ?_)
    simp only [ZQ.j1,e]
    exact Ev.pos trivial (Ev.now _)
   ·obtain ⟨p1,p2,p3,p4,p5,p6,-,-⟩:=Z2x (Z7x hb)
    have es:wrap64 (wrap64 ((s.size:Int) - (Zk s a).2.1) - 4) = s.size - (Zk s a).2.1 - 4:=by
     rw [Z9 (n:=(s.size:Int) - (Zk s a).2.1) (by omega) (by omega),Z9 (by omega) (by omega)]
    have e4:wrap64 ((Zk s a).2.1 + 4) = (Zk s a).2.1 + 4:=Z9 (by omega) (by omega)
    have eb:wrap64 ((Zk s a).2.1 + 4 + (Zk s a).1) = (Zk s a).2.1 + 4 + (Zk s a).1:=Z9 (by omega) (by omega)
    refine Ev.pos rfl (Ev.step (fun _ => rfl) ?_)
    simp only [ZQ.j1,es,e4,eb]
    by_cases h4:(Zk s a).1 > (s.size:Int) - (Zk s a).2.1 - 4
    ·have e:Z0H s a = none:=by rw [Z0H,if_neg (by simp [hb]),if_pos h4]
     rw [e]
     exact Ev.pos (decide_eq_true h4) (Ev.now _)
    ·refine Ev.neg (by simp;omega) (Ev.pos (by omega) (Ev.pos (by omega) (Ev.pos (by omega) (Ev.bind (Z4a _ (by rw [ByteArray.size_extract];omega)) (Ev.ite (fun h5 => Ev.pos (by omega) (Ev.pos (by omega) (Ev.ite (fun h6 => Ev.pos (by omega) ?_) (fun h6 => ?_)))) (fun h5 => ?_))))))
     ·have e:Z0H s a = some (s.extract ((Zk s a).2.1 + 4).toNat ((Zk s a).2.1 + 4 + (Zk s a).1).toNat,(Zk s a).2.1 + 4 + (Zk s a).1):=by
       rw [Z0H,if_neg (by simp [hb]),if_neg h4,if_pos ⟨h5,toList_inj.1 h6⟩]
      rw [e]
      exact ih _ _ (by omega) (by omega) (by simp only [List.length_append,List.length_singleton];omega) (by omega)
     ·have e:Z0H s a = none:=by rw [Z0H,if_neg (by simp [hb]),if_neg h4,if_neg (fun e => h6 (toList_inj.2 e.2))]
      rw [e];exact Ev.now _
     ·have e:Z0H s a = none:=by rw [Z0H,if_neg (by simp [hb]),if_neg h4,if_neg (fun e => h5 e.1)]
      rw [e];exact Ev.now _
  ·have e:Z0H s a = none:=by
    have hf:(Zk s a).2.2 = false:=by
     cases hb:(Zk s a).2.2
     ·rfl
     ·have:=Z2x (Z7x hb);omega
    rw [Z0H,if_pos hf]
   rw [e]
theorem Zby (s:ByteArray):Ev (fun k => ZQ.f k s) (Z00 s):=by
 unfold ZQ.f Z00
 refine Ev.call rfl (Ev.ite (fun hc => Ev.done ?_) (fun hc => ?_))
 ·rw [if_pos (show s.size > 20000 by omega)]
 ·rw [if_neg (show ¬ s.size > 20000 by omega)]
  exact Z8Z s (by omega) _ [] 0 (by omega) (by omega) (by simp) (by omega)
theorem impl_flag_eq (b:Bool):Z5P.f b = some (flagT b):=by cases b <;> rfl
theorem Z79 {l:List Int} (hl:l.length≤140737488351232):∀ (m n:Nat) (acc s:List Int) (i y:Int),12 - n≤m→n≤12→acc.length = n→(∀ x∈acc,0≤x)→Cu l s i →
  To (fun k => Z0w.l0 k acc (n:Int) s i y) (fun r => r.length = 12∧∀ x∈r,0≤x):=by
 intro m
 induction m with
 | zero =>
  intro n acc s i y h1 h2 h3 h4 h
  refine To.step (fun _ => rfl) ?_
  simp only [Z0w.l0]
  exact To.neg (by omega) (To.now ⟨by omega,h4⟩)
 | succ m ih =>
  intro n acc s i y h1 h2 h3 h4 h
  refine To.step (fun _ => rfl) ?_
  simp only [Z0w.l0,Z5 (show n≤9223372036854775806 by omega)]
  refine To.ite (fun c => To.bind (Z1r hl y h 10000) (fun r p => To.pos (by omega) (ih (n + 1) _ _ _ _ (by omega) (by omega) (by simp [h3]) ?_ p.2.2))) (fun c => To.now ⟨by omega,h4⟩)
  intro x hx
  rcases List.mem_append.1 hx with hx | hx
  ·exact h4 x hx
  ·rw [List.mem_singleton] at hx;subst hx;exact p.1
theorem Z8B (l:List Int) (hl:l.length≤140737488351232):To (fun k => Z0w.f k l) (fun r => r.length = 12∧∀ x∈r,0≤x):=by
 unfold Z0w.f
 exact To.bind (Z7i l hl) (fun r hr => To.bind (Z2r hl _ hr) (fun r p => Z79 hl 12 0 [] _ _ _ (by omega) (by omega) rfl (by simp) p.2.2))
def Z1R (s:ByteArray):ByteArray×Bool:=if 4≤s.size∧s.size≤20004∧s.extract (s.size - 4) s.size = four (sumOf (s.extract 0 (s.size - 4))) then (s.extract 0 (s.size - 4),true) else (⟨#[]⟩,false)
theorem split4 {s:ByteArray} (h:4≤s.size):bytesOf s = bytesOf (s.extract 0 (s.size - 4))++bytesOf (s.extract (s.size - 4) s.size):=by
 rw [Z0M,Z5x,List.drop_zero,List.take_append_drop]
theorem Z7A {t s:ByteArray} (h:sealT t = (s,true)):Z1R s = (t,true):=by
 unfold sealT at h
 by_cases hc:t.size > 20000
 ·rw [if_pos hc] at h;simp at h
 ·rw [if_neg hc] at h
  simp only [Prod.mk.injEq,and_true] at h
  have h4:=Z3r (sumOf t)
  have hs:s.size = t.size + 4:=by rw [←h,size_append,h4]
  have hb:bytesOf s = bytesOf t++bytesOf (four (sumOf t)):=by rw [←h,Z07]
  have hl:(bytesOf t).length = s.size - 4:=by rw [Ze];omega
  have e1:s.extract 0 (s.size - 4) = t:=Z0N (by rw [Z0M,List.drop_zero,hb,←hl,List.take_left])
  have e2:s.extract (s.size - 4) s.size = four (sumOf t):=Z0N (by rw [Z5x,hb,←hl,List.drop_left])
  unfold Z1R
  rw [e1,e2,if_pos ⟨by omega,by omega,rfl⟩]
theorem Z4y {t s:ByteArray} (h:Z1R s = (t,true)):sealT t = (s,true)∧t.size≤20000:=by
 unfold Z1R at h
 split at h
 ·rename_i hc
  simp only [Prod.mk.injEq,and_true] at h
  subst h
  have hz:(s.extract 0 (s.size - 4)).size = s.size - 4:=by have:=Z4L (s:=s) (a:=0) (b:=((s.size - 4:Nat):Int)) (by omega) (by omega) (by omega);simp only [Int.toNat_natCast] at this;have e:(0:Int).toNat = 0:=rfl;rw [e] at this;omega
  unfold sealT
  refine ⟨?_,by omega⟩
  rw [if_neg (by omega),←hc.2.2]
  congr 1
  exact Z0N (by rw [Z07,←split4 hc.1])
 ·simp at h
theorem Z6g (s:ByteArray) (hs:s.size≤1048576):Ev (fun k => Z32.f k s) (Z1R s):=by
 unfold Z32.f Z1R
 rw [Z9 (by omega) (by omega)]
 refine Ev.ite (fun hc => Ev.done ?_) (fun hc => Ev.ite (fun hd => Ev.done ?_) (fun hd => Ev.pos (by omega) (Ev.pos (by omega) ?_)))
 ·rw [if_neg (by omega)]
 ·rw [if_neg (by omega)]
 have e:((s.size:Int) - 4).toNat = s.size - 4:=by omega
 rw [e]
 refine Ev.bind (Z67 _ (by have:=Z4L (s:=s) (a:=0) (b:=((s.size - 4:Nat):Int)) (by omega) (by omega) (by omega);simp only [Int.toNat_natCast] at this;have e:(0:Int).toNat = 0:=rfl;rw [e] at this;omega)) (Ev.call (Z59 _) (Ev.ite (fun h => Ev.done ?_) (fun h => Ev.done ?_)))
 ·rw [if_pos ⟨by omega,by omega,toList_inj.1 h⟩]
 ·rw [if_neg (fun h' => h (toList_inj.2 h'.2.2))]
theorem Z6i (s:ByteArray) (hs:s.size≤1048576):Ev (fun k => Z35.f k s) (Z1R s):=by
 unfold Z35.f
 refine Ev.ite (fun hc => Ev.done ?_) (fun hc => ?_)
 ·unfold Z1R;rw [if_neg (by omega)]
 rw [Z9 (by omega) (by omega)]
 have e:((s.size:Int) - 4).toNat = s.size - 4:=by omega
 have hz:(s.extract 0 (s.size - 4)).size = s.size - 4:=by have:=Z4L (s:=s) (a:=0) (b:=((s.size - 4:Nat):Int)) (by omega) (by omega) (by omega);simp only [Int.toNat_natCast] at this;have e:(0:Int).toNat = 0:=rfl;rw [e] at this;omega
 rw [e]
 refine Ev.pos (by omega) (Ev.pos (by omega) (Ev.bind (Z7j _ (by omega)) (Ev.ite (fun h => Ev.ite (fun h' => Ev.done ?_) (fun h' => Ev.done ?_)) (fun h => Ev.done ?_))))
 ·exact (Z7A (show sealT (s.extract 0 (s.size - 4)) = (s,true) from Prod.ext (toList_inj.1 h') h)).symm
 ·cases hu:Z1R s with
  | mk t b =>
   cases b
   ·unfold Z1R at hu;split at hu
    ·simp at hu
    ·exact hu
   ·exfalso
    have hst:=(Z4y hu).1
    have e2:t = s.extract 0 (s.size - 4):=by unfold Z1R at hu;split at hu <;> simp_all
    rw [←e2,hst] at h'
    exact h' rfl
 ·cases hu:Z1R s with
  | mk t b =>
   cases b
   ·unfold Z1R at hu;split at hu
    ·simp at hu
    ·exact hu
   ·exfalso
    have hst:=(Z4y hu).1
    have e2:t = s.extract 0 (s.size - 4):=by unfold Z1R at hu;split at hu <;> simp_all
    rw [←e2,hst] at h
    exact h rfl
def keyUp:Option ByteArray→ByteArray→Bool
 | none,_ => true
 | some q,s => Op.bytesLess q.toList s.toList
def Z40:Option ByteArray→List S162→Bool
 | _,[] => true
 | p,x::t => inR x.f0.size 1 10 && (keyUp p x.f0 && (decide (x.f1.size≤40) && ((!x.f2 || emp x.f1) && Z40 (some x.f0) t)))
def Z2D (st:Int) (l:List S162):Bool:=inR st 0 100000 && (decide (l.length≤60) && Z40 none l)
def Z5O (xs:List S162):Nat→Option ByteArray
 | 0 => none
 | n + 1 => some (ZS xs (n:Int)).f0
theorem ZbE:∀ {l:List S162} {p:Option ByteArray},Z40 p l = true→∀ x∈l,(1≤x.f0.size∧x.f0.size≤10)∧x.f1.size≤40
 | [],_,_,x,hx => by cases hx
 | y::t,p,h,x,hx => by
  rw [Z40] at h
  simp only [Bool.and_eq_true] at h
  rcases List.mem_cons.1 hx with rfl | hx
  ·have:=Zr.1 h.1
   exact ⟨by omega,of_decide_eq_true h.2.2.1⟩
  ·exact ZbE h.2.2.2.2 x hx
theorem Z0V {st:Int} {l:List S162} (h:Z2D st l = true):(0≤st∧st≤100000)∧l.length≤60∧∀ x∈l,(1≤x.f0.size∧x.f0.size≤10)∧x.f1.size≤40:=by
 unfold Z2D at h
 simp only [Bool.and_eq_true] at h
 exact ⟨Zr.1 h.1,of_decide_eq_true h.2.1,ZbE h.2.2⟩
theorem Z9o (st:Int) (l:List S162) (hl:l.length≤1048576):∀ (rest:List S162) (n:Nat),l.drop n = rest→Ev (fun k => Zq.l0 k (n:Int) st l) (Z40 (Z5O l n) rest):=by
 intro rest
 induction rest with
 | nil =>
  intro n h
  have:=ZE h
  refine Ev.step (fun _ => rfl) ?_
  simp only [Zq.l0]
  exact Ev.neg (by omega) (Ev.done (by simp [Z40]))
 | cons x t ih =>
  intro n h
  obtain ⟨h1,-,h3⟩:=Zi h
  have hk:Z5O l (n + 1) = some x.f0:=by rw [Z5O,Z34 h]
  have ih:=ih (n + 1) h3
  rw [hk] at ih
  have tail:∀ r,r = (decide (x.f1.size≤40) && ((!x.f2 || emp x.f1) && Z40 (some x.f0) t))→Ev (fun k => if ((x.f1).size:Int) > 40 then some false else (if x.f2 = true then (if x.f1.toList = ([]:List UInt8) then (Zq.l0 k ((n + 1:Nat):Int) st l) else some false) else (Zq.l0 k ((n + 1:Nat):Int) st l))) r:=by
   rintro r rfl
   refine Ev.ite (fun c => Ev.done (by rw [decide_eq_false (show ¬ x.f1.size≤40 by omega)];rfl)) (fun c => ?_)
   rw [decide_eq_true (show x.f1.size≤40 by omega),Bool.true_and]
   refine Ev.ite (fun c2 => Ev.ite (fun c3 => Ev.eq ih ?_) (fun c3 => Ev.done ?_)) (fun c2 => Ev.eq ih ?_)
   ·rw [c2,(ZdK _).1 c3];simp
   ·rw [c2,show emp x.f1 = false by simpa using fun e => c3 ((ZdK _).2 e)];simp
   ·rw [show x.f2 = false by simpa using c2];simp
  refine Ev.step (fun _ => rfl) ?_
  simp only [Zq.l0,Z34 h,Z5 (show n≤9223372036854775806 by omega)]
  refine Ev.pos (by omega) (Ev.pos (by omega) (Ev.call (Z5z _) ?_))
  rw [Z40]
  cases h0:inR x.f0.size 1 10
  ·exact Ev.neg (by simp) (Ev.done (by simp))
  refine Ev.pos rfl ?_
  cases n with
  | zero => exact Ev.neg (by omega) (tail _ (by simp [Z5O,keyUp]))
  | succ m =>
   simp only [Z2J (show m≤9223372036854775806 by omega)]
   refine Ev.pos (by omega) (Ev.pos (by omega) (Ev.pos (by omega) (Ev.ite (fun hc => tail _ ?_) (fun hc => Ev.done ?_))))
   ·simp only [Z5O,keyUp,hc];simp
   ·simp only [Z5O,keyUp,Bool.eq_false_iff.2 hc];simp
theorem Z6F (st:Int) (l:List S162) (hl:l.length≤1048576):Ev (fun k => Zq.f k st l) (Z2D st l):=by
 unfold Zq.f Z2D
 refine Ev.call (Z0m _ _ _) ?_
 cases inR st 0 100000
 ·refine Ev.neg (by simp) (Ev.step (fun _ => rfl) ?_)
  simp only [Zq.j0]
  exact Ev.pos trivial (Ev.done (by simp))
 ·refine Ev.pos rfl (Ev.step (fun _ => rfl) ?_)
  simp only [Zq.j0]
  refine Ev.ite (fun c => Ev.done ?_) (fun c => Ev.eq (Z9o st l hl l 0 rfl) ?_)
  ·have:=of_decide_eq_true c
   rw [decide_eq_false (show ¬ l.length≤60 by omega)];rfl
  ·have:=of_decide_eq_false (by simpa using c:decide ((l.length:Int) > 60) = false)
   rw [decide_eq_true (show l.length≤60 by omega)];rfl
def Z3w:ByteArray→List S162→ByteArray
 | s,[] => s
 | s,x::t => Z3w (s++ZM x.f0++flagT x.f2++ZM x.f1) t
def Z4 (st:Int) (l:List S162):ByteArray×Bool:=if Z2D st l = true then (Z3w (Zx st.toNat++Zx l.length) l,true) else (⟨#[]⟩,false)
theorem Z7R (st:Int) (l:List S162) (hl:l.length≤60) (hd:∀ x∈l,(1≤x.f0.size∧x.f0.size≤10)∧x.f1.size≤40):∀ (rest:List S162) (n:Nat) (acc:ByteArray),l.drop n = rest→acc.size + 100 * rest.length≤100000 →
  Ev (fun k => Z06.l0 k acc (n:Int) st l) (Z3w acc rest,true):=by
 intro rest
 induction rest with
 | nil =>
  intro n acc h ha
  have:=ZE h
  refine Ev.step (fun _ => rfl) ?_
  simp only [Z06.l0]
  rw [Z3w]
  exact Ev.neg (by omega) (Ev.now _)
 | cons x r ih =>
  intro n acc h ha
  obtain ⟨h1,-,h3⟩:=Zi h
  have hm:=hd x (List.mem_of_mem_drop (h ▸ List.mem_cons_self))
  have s0:=Z2E (show x.f0.size≤34359738367 by omega)
  have s1:=Z2E (show x.f1.size≤34359738367 by omega)
  have sf:=Z95 x.f2
  rw [List.length_cons] at ha
  refine Ev.step (fun _ => rfl) ?_
  simp only [Z06.l0,Z34 h,Z5 (show n≤9223372036854775806 by omega)]
  rw [Z3w]
  have hn:=ih (n + 1) (acc++ZM x.f0++flagT x.f2++ZM x.f1) h3 (by simp only [size_append];omega)
  have z1:(⟨#[1]⟩:ByteArray).size = 1:=rfl
  have z0:(⟨#[0]⟩:ByteArray).size = 1:=rfl
  refine Ev.pos (by omega) (Ev.pos (by omega) (Ev.ite (fun hc => ?_) (fun hc => ?_)))
  ·rw [flagT,if_pos hc] at hn ⊢
   exact Ev.bind (Z3d x.f0 (by omega)) (Ev.pos (by omega) (Ev.pos (by simp only [size_append];omega) (Ev.bind (Z3d x.f1 (by omega)) (Ev.pos (by simp only [size_append];omega) hn))))
  ·rw [flagT,if_neg hc] at hn ⊢
   exact Ev.bind (Z3d x.f0 (by omega)) (Ev.pos (by omega) (Ev.pos (by simp only [size_append];omega) (Ev.bind (Z3d x.f1 (by omega)) (Ev.pos (by simp only [size_append];omega) hn))))
theorem Z3K (st:Int) (l:List S162) (hl:l.length≤1048576):Ev (fun k => Z06.f k st l) (Z4 st l):=by
 unfold Z06.f Z4
 refine Ev.bind (Z6F st l hl) (Ev.ite (fun hk => ?_) (fun hk => Ev.done (by rw [if_neg hk])))
 rw [if_pos hk]
 obtain ⟨b1,b2,b3⟩:=Z0V hk
 have s1:=Z1f (show st.toNat≤34359738367 by omega)
 have s2:=Z1f (show l.length≤34359738367 by omega)
 exact Ev.bind (Z2H st (by omega) (by omega)) (Ev.bind (Z1C _ (by omega)) (Ev.pos (by omega) (Z7R st l b2 b3 l 0 _ rfl (by simp only [size_append];omega))))
def Z10 (x:S162):List Int:=sh x.f0++(flagL x.f2::sh x.f1)
theorem Z6x:∀ (l:List S162) (acc:ByteArray),bytesOf (Z3w acc l) = bytesOf acc++l.flatMap Z10
 | [],acc => by simp [Z3w]
 | x::t,acc => by
  rw [Z3w,Z6x t]
  simp only [Z07,Z3I,Z8t,List.flatMap_cons,Z10,List.append_assoc,List.cons_append,List.nil_append]
theorem Z3A {st:Int} {l:List S162} {s:ByteArray} (h:Z4 st l = (s,true)):Z2D st l = true∧bytesOf s = varL st.toNat++(varL l.length++l.flatMap Z10):=by
 unfold Z4 at h
 by_cases hk:Z2D st l = true
 ·rw [if_pos hk] at h
  refine ⟨hk,?_⟩
  rw [←(Prod.mk.inj h).1,Z6x]
  simp only [Z07,Z1p,List.append_assoc]
 ·rw [if_neg hk] at h;simp at h
def BDec (x0:ByteArray) (r:Int×List S162×Bool):Prop:=r = (0,[],false)∨∃ st l,r = (st,l,true)∧Z4 st l = (x0,true)
theorem Z1I (x0 s:ByteArray) (n i a:Int) (b:Bool) (st:Int) (acc:List S162) (hl:acc.length≤1048576):To (fun k => Zc.j1 k x0 n i false s a b st acc) (BDec x0):=by
 refine To.step (fun _ => rfl) ?_
 simp only [Zc.j1]
 refine To.neg (by simp) (To.bind (To.ev (P:=fun r => r = Z4 st acc) (Z3K st acc hl) rfl) (fun r e => ?_))
 refine To.ite (fun _ => To.now (Or.inl rfl)) (fun _ => To.ite (fun q1 => To.ite (fun q2 => To.now (Or.inr ⟨_,_,rfl,?_⟩)) (fun _ => To.now (Or.inl rfl))) (fun _ => To.now (Or.inl rfl)))
 rw [←e]
 exact Prod.ext (toList_inj.1 q2) q1
theorem Z7Q (x0 s:ByteArray) (hs:s.size≤1048575) (N st:Int) (hN:N≤1000000000):∀ (m:Nat) (i a:Int) (b:Bool) (acc:List S162),0≤i→0≤a→a≤s.size→(acc.length:Int)≤a + (if b = true then 1 else 0)→(s.size:Int) - a + (if b = true then 0 else 1)≤m→acc.length≤1048576 →
  To (fun k => Zc.l0 k x0 N i s a b st acc) (BDec x0):=by
 intro m
 induction m with
 | zero =>
  intro i a b acc hi h0 h1 h2 h3 h4
  obtain rfl:b = true:=by cases b <;> simp_all;omega
  refine To.step (fun _ => rfl) ?_
  simp only [Zc.l0]
  exact To.ite (fun _ => Z1I x0 s N i a true st acc h4) (fun _ => Z1I x0 s N i a true st acc h4)
 | succ m ih =>
  intro i a b acc hi h0 h1 h2 h3 h4
  refine To.step (fun _ => rfl) ?_
  simp only [Zc.l0]
  cases b with
  | true => exact To.ite (fun _ => Z1I x0 s N i a true st acc h4) (fun _ => Z1I x0 s N i a true st acc h4)
  | false =>
   simp only [Bool.false_eq_true,if_false] at h2 h3
   refine To.ite (fun c => ?_) (fun _ => Z1I x0 s N i a false st acc h4)
   refine To.step (fun _ => rfl) ?_
   simp only [Zc.j1,Bool.not_false]
   have p1:=Z7o (s:=s) (a:=a) (bad:=false) h0 h1
   refine To.pos trivial (To.bind (To.ev (P:=fun r => r = Z2s s a false) (Z2S s a false (by omega) h0 h1) rfl) (fun r1 e1 => ?_))
   have t1:r1.2.1 = s:=by rw [e1];exact Z8f _ _ _
   rw [←e1] at p1
   rw [t1]
   refine To.call (P:=fun r => r = Z2q s r1.2.2.1 r1.2.2.2 1) ⟨_,Z5i s _ 1 _ (by omega) p1.1 p1.2 (by omega) (by omega),rfl⟩ (fun r2 e2 => ?_)
   have t2:r2.2.1 = s:=by rw [e2];exact Za2 _ _ _ _
   have p2:0≤r2.2.2.1∧r2.2.2.1≤s.size:=by rw [e2];exact Z8m p1.1 p1.2 (by omega)
   rw [t2]
   refine To.bind (To.ev (P:=fun r => r = Z2s s r2.2.2.1 r2.2.2.2) (Z2S s _ _ (by omega) p2.1 p2.2) rfl) (fun r3 e3 => ?_)
   have t3:r3.2.1 = s:=by rw [e3];exact Z8f _ _ _
   have p3:0≤r3.2.2.1∧r3.2.2.1≤s.size:=by rw [e3];exact Z7o p2.1 p2.2
   rw [t3]
   refine To.pos (by omega) ?_
   rw [Z9 (by omega) (by omega)]
   cases hb:r3.2.2.2 with
   | true =>
    refine To.step (fun _ => rfl) ?_
    simp only [Zc.l0]
    exact To.ite (fun _ => Z1I x0 s N _ _ true st _ (by simp;omega)) (fun _ => Z1I x0 s N _ _ true st _ (by simp;omega))
   | false =>
    rw [e3] at hb
    obtain ⟨hb2,m3⟩:=Z7h p2.1 p2.2 hb
    rw [←e3] at m3
    rw [e2] at hb2
    obtain ⟨hb1,m2,-⟩:=ZdY p1.1 (by omega) hb2
    rw [←e2] at m2
    rw [e1] at hb1
    obtain ⟨-,m1⟩:=Z7h h0 h1 hb1
    rw [←e1] at m1
    have l1:=m1.le;have l2:=m2.le;have l3:=m3.le
    have v1:=Z61 r1.1.size
    rw [sh,List.length_append] at l1
    exact ih _ _ false _ (by omega) p3.1 p3.2 (by simp;omega) (by simp;omega) (by simp;omega)
theorem Z5G (s:ByteArray) (hs:s.size≤1048575):To (fun k => Zc.f k s) (BDec s):=by
 unfold Zc.f
 refine To.bind (To.ev (P:=fun r => r = Z0e s 0 false) (Z0c s 0 false (by omega)) rfl) (fun r1 e1 => ?_)
 have p1:r1.2.1 = s∧0≤r1.2.2.1∧r1.2.2.1≤s.size:=by rw [e1];exact ⟨Z12 _ _ _,Z0E (by omega) (by omega)⟩
 rw [p1.1]
 refine To.bind (To.ev (P:=fun r => r = Z0e s r1.2.2.1 r1.2.2.2) (Z0c s _ _ (by omega)) rfl) (fun r2 e2 => ?_)
 have p2:r2.2.1 = s∧0≤r2.2.2.1∧r2.2.2.1≤s.size:=by rw [e2];exact ⟨Z12 _ _ _,Z0E p1.2.1 p1.2.2⟩
 rw [p2.1]
 have hn:r2.1≤1000000000:=by rw [e2];exact (Z3J _ _ _).2
 exact Z7Q s s (by omega) r2.1 r1.1 hn (s.size + 1) 0 r2.2.2.1 r2.2.2.2 [] (by omega) p2.2.1 p2.2.2 (by simp;split <;> omega) (by split <;> omega) (by simp)
theorem Z7V (x0 s:ByteArray) (hs:s.size≤1048576) (st:Int) (l:List S162) (hl:l.length≤60) (h:Z4 st l = (x0,true)):∀ (rest:List S162) (n:Nat) (acc:List S162) (a:Int),acc++rest = l→acc.length = n→(∀ x∈rest,(1≤x.f0.size∧x.f0.size≤10)∧x.f1.size≤40)→At s a (rest.flatMap Z10) s.size →
  Ev (fun k => Zc.l0 k x0 (l.length:Int) (n:Int) s a false st acc) (st,l,true):=by
 intro rest
 induction rest with
 | nil =>
  intro n acc a h1 h2 h3 h4
  rw [List.append_nil] at h1
  subst h1
  refine Ev.step (fun _ => rfl) ?_
  simp only [Zc.l0]
  refine Ev.neg (by omega) (Ev.step (fun _ => rfl) ?_)
  simp only [Zc.j1]
  exact Ev.neg (by simp) (Ev.bind (Ev.eq (Z3K st acc (by omega)) h) (Ev.neg (by simp) (Ev.pos rfl (Ev.pos rfl (Ev.now _)))))
 | cons x t ih =>
  intro n acc a h1 h2 h3 h4
  have hlen:acc.length + (t.length + 1) = l.length:=by rw [←h1];simp
  obtain ⟨z0,z1⟩:=h3 x List.mem_cons_self
  rw [List.flatMap_cons,Z10,List.append_assoc] at h4
  obtain ⟨q1,h4⟩:=h4.split
  obtain ⟨q2,h4⟩:=at_cons h4
  obtain ⟨q3,h4⟩:=At.split (P:=sh x.f1) h4
  have l1:=q1.le;have l2:=q2.le;have l3:=q3.le
  refine Ev.step (fun _ => rfl) ?_
  simp only [Zc.l0]
  refine Ev.pos (by omega) (Ev.step (fun _ => rfl) ?_)
  simp only [Zc.j1,Bool.not_false,Z5 (show n≤9223372036854775806 by omega)]
  refine Ev.pos trivial (Ev.bind (Ev.eq (Z2S s a false (by omega) (by omega) (by omega)) (Z9U q1 (by omega))) (Ev.call ((Z5i s (a + ((sh x.f0).length:Int)) 1 false (by omega) (by omega) (by omega) (by omega) (by omega)).trans (congrArg some (take_flag q2))) (Ev.bind (Ev.eq (Z2S s (a + ((sh x.f0).length:Int) + 1) false (by omega) (by omega) (by omega)) (Z9U q3 (by omega))) (Ev.pos (by omega) ?_))))
  simp only [(flag_at x.f2).2.2.1]
  exact ih (n + 1) _ _ (by rw [←h1,List.append_assoc];rfl) (by simp [h2]) (fun y hy => h3 y (List.mem_cons_of_mem _ hy)) h4
theorem Z5f (s:ByteArray) (hs:s.size≤1048576) (st:Int) (l:List S162) (h:Z4 st l = (s,true)):Ev (fun k => Zc.f k s) (st,l,true):=by
 obtain ⟨hk,hb⟩:=Z3A h
 obtain ⟨b1,b2,b3⟩:=Z0V hk
 have hw:=At.whole s
 rw [hb] at hw
 obtain ⟨q1,hw⟩:=hw.split
 obtain ⟨q2,hw⟩:=hw.split
 unfold Zc.f
 refine Ev.bind (Ev.eq (Z0c s 0 false (by omega)) (Z1Z q1 (by omega))) (Ev.bind (Ev.eq (Z0c s _ false (by omega)) (Z1Z q2 (by omega))) ?_)
 simp only [Int.toNat_of_nonneg b1.1]
 exact Z7V s s hs st l b2 h l 0 [] _ rfl rfl b3 hw
theorem Z9M (st:Int) (l:List S162) (hl:l.length≤1048576):∀ (rest:List S162) (n:Nat),l.drop n = rest→Ev (fun k => Z0B.l0 k l (l.length:Int) (n:Int) st l) (Z40 (Z5O l n) rest && (inR st 0 100000 && decide (l.length≤60))):=by
 intro rest
 induction rest with
 | nil =>
  intro n h
  have:=ZE h
  refine Ev.step (fun _ => rfl) ?_
  simp only [Z0B.l0]
  refine Ev.neg (by omega) (Ev.call (Z0j _ _ _) ?_)
  rw [Z40,Bool.true_and]
  cases inR st 0 100000
  ·exact Ev.neg (by simp) (Ev.done (by simp))
  ·exact Ev.pos rfl (Ev.done (by rw [Bool.true_and];exact decide_eq_decide.2 (by omega)))
 | cons x t ih =>
  intro n h
  obtain ⟨h1,-,h3⟩:=Zi h
  have hk:Z5O l (n + 1) = some x.f0:=by rw [Z5O,Z34 h]
  have ih:=ih (n + 1) h3
  rw [hk] at ih
  have prev:∀ r,r = (keyUp (Z5O l n) x.f0 && (Z40 (some x.f0) t && (inR st 0 100000 && decide (l.length≤60))))→Ev (fun k => if (n:Int) > 0 then (if 0≤(wrap64 ((n:Int) - 1)) then (if (wrap64 ((n:Int) - 1)) < (l.length:Int) then (if ((Op.bytesLess (((ZS l (wrap64 ((n:Int) - 1))).f0).toList) (x.f0.toList)) = true) then (Z0B.l0 k l (l.length:Int) ((n + 1:Nat):Int) st l) else some false) else none) else none) else (Z0B.l0 k l (l.length:Int) ((n + 1:Nat):Int) st l)) r:=by
   rintro r rfl
   cases n with
   | zero => exact Ev.neg (by omega) (Ev.eq ih (by simp [Z5O,keyUp]))
   | succ m =>
    simp only [Z2J (show m≤9223372036854775806 by omega)]
    refine Ev.pos (by omega) (Ev.pos (by omega) (Ev.pos (by omega) (Ev.ite (fun hc => Ev.eq ih ?_) (fun hc => Ev.done ?_))))
    ·simp only [Z5O,keyUp,hc];simp
    ·simp only [Z5O,keyUp,Bool.eq_false_iff.2 hc];simp
  refine Ev.step (fun _ => rfl) ?_
  simp only [Z0B.l0,Z34 h,Z5 (show n≤9223372036854775806 by omega)]
  refine Ev.pos (by omega) (Ev.pos (by omega) (Ev.pos (by omega) (Ev.call (Z81 _) ?_)))
  rw [Z40]
  cases h0:inR x.f0.size 1 10
  ·exact Ev.neg (by simp) (Ev.done (by simp))
  refine Ev.pos rfl (Ev.ite (fun c => Ev.done (by rw [decide_eq_false (show ¬ x.f1.size≤40 by omega)];simp)) (fun c => ?_))
  rw [decide_eq_true (show x.f1.size≤40 by omega)]
  refine Ev.ite (fun c2 => Ev.ite (fun c3 => prev _ ?_) (fun c3 => Ev.done ?_)) (fun c2 => prev _ ?_)
  ·rw [c2,(ZdK _).1 c3];simp [Bool.and_assoc]
  ·rw [c2,show emp x.f1 = false by simpa using fun e => c3 ((ZdK _).2 e)];simp
  ·rw [show x.f2 = false by simpa using c2];simp [Bool.and_assoc]
theorem Zbp (st:Int) (l:List S162) (hl:l.length≤1048576):Ev (fun k => Z0B.f k st l) (Z2D st l):=by
 refine Ev.eq (Z9M st l hl l 0 rfl) ?_
 unfold Z2D
 show (Z40 none l && _) = _
 cases inR st 0 100000 <;> cases decide (l.length≤60) <;> simp
theorem Z7O (l:List S162) (hl:l.length≤60) (hd:∀ x∈l,(1≤x.f0.size∧x.f0.size≤10)∧x.f1.size≤40):∀ (rest:List S162) (n:Nat) (acc:ByteArray),l.drop n = rest→acc.size + 100 * rest.length≤100000 →
  Ev (fun k => Z0u.l0 k acc l (l.length:Int) (n:Int)) (Z3w acc rest,true):=by
 intro rest
 induction rest with
 | nil =>
  intro n acc h ha
  have:=ZE h
  refine Ev.step (fun _ => rfl) ?_
  simp only [Z0u.l0]
  rw [Z3w]
  exact Ev.neg (by omega) (Ev.now _)
 | cons x r ih =>
  intro n acc h ha
  obtain ⟨h1,-,h3⟩:=Zi h
  have hm:=hd x (List.mem_of_mem_drop (h ▸ List.mem_cons_self))
  have s0:=Z2E (show x.f0.size≤34359738367 by omega)
  have s1:=Z2E (show x.f1.size≤34359738367 by omega)
  have sf:=Z95 x.f2
  rw [List.length_cons] at ha
  refine Ev.step (fun _ => rfl) ?_
  simp only [Z0u.l0,Z34 h,Z5 (show n≤9223372036854775806 by omega)]
  rw [Z3w]
  have hn:=ih (n + 1) (acc++((ZM x.f0++flagT x.f2)++ZM x.f1)) h3 (by simp only [size_append];omega)
  rw [show acc++ZM x.f0++flagT x.f2++ZM x.f1 = acc++((ZM x.f0++flagT x.f2)++ZM x.f1) by simp only [ByteArray.append_assoc]]
  exact Ev.pos (by omega) (Ev.pos (by omega) (Ev.pos (by omega) (Ev.bind (Z4Z x.f0 (by omega)) (Ev.call (impl_flag_eq x.f2) (Ev.pos (by omega) (Ev.bind (Z4Z x.f1 (by omega)) (Ev.pos (by simp only [size_append];omega) (Ev.pos (by simp only [size_append];omega) hn))))))))
theorem ZcP (st:Int) (n:Nat) (h:0≤st∧st≤100000) (hn:n≤60):Ev (fun k => Z1E.f k [st,(n:Int)]) (Zx st.toNat++Zx n,true):=by
 refine Ev.eq (Z9R _ (by simp)) ?_
 rw [varsOf,if_pos (by simp [Zr];omega)]
 simp [Zx,Z22]
theorem Z4B (st:Int) (l:List S162) (hl:l.length≤1048576):Ev (fun k => Z0u.f k st l) (Z4 st l):=by
 unfold Z0u.f Z4
 refine Ev.bind (Zbp st l hl) (Ev.ite (fun hk => ?_) (fun hk => Ev.done (by rw [if_neg hk])))
 rw [if_pos hk]
 obtain ⟨b1,b2,b3⟩:=Z0V hk
 have s1:=Z1f (show st.toNat≤34359738367 by omega)
 have s2:=Z1f (show l.length≤34359738367 by omega)
 exact Ev.bind (ZcP st l.length b1 b2) (Z7O l b2 b3 l 0 _ rfl (by simp only [size_append];omega))
theorem Z7H (s:ByteArray) (hs:s.size≤1048576) (a:Int) (h0:0≤a) (h1:a≤s.size) (st:Int) (acc:List S162) (hl:acc.length≤1048577):To (fun k => Z1x.f k s a false st acc) (fun r => r.1 = st∧r.2.2.1 = s∧(0≤r.2.2.2.1∧r.2.2.2.1≤s.size)∧(∃ x:S162,r.2.1 = acc++[x])∧(r.2.2.2.2 = false→a < r.2.2.2.1)):=by
 unfold Z1x.f
 refine To.bind (To.ev (P:=fun r => r = Z1T s a false) (Z33 s a false (by omega)) rfl) (fun r1 e1 => ?_)
 have p1:r1.2.1 = s∧0≤r1.2.2.1∧r1.2.2.1≤s.size:=by rw [e1];exact ⟨Z9Y _ _ _,Z8w h0 h1⟩
 rw [p1.1]
 refine To.call (P:=fun r => r = Z2u s r1.2.2.1 r1.2.2.2) ⟨_,Z57 s _ _ (by omega) p1.2.1 p1.2.2,rfl⟩ (fun r2 e2 => ?_)
 have p2:r2.2.1 = s∧0≤r2.2.2.1∧r2.2.2.1≤s.size:=by rw [e2];exact ⟨curByte_text _ _ _,Ze4 p1.2.1 p1.2.2⟩
 rw [p2.1]
 refine To.bind (To.ev (P:=fun r => r = Z1T s r2.2.2.1 r2.2.2.2) (Z33 s _ _ (by omega)) rfl) (fun r3 e3 => ?_)
 have p3:r3.2.1 = s∧0≤r3.2.2.1∧r3.2.2.1≤s.size:=by rw [e3];exact ⟨Z9Y _ _ _,Z8w p2.2.1 p2.2.2⟩
 refine To.pos (by omega) (To.now ⟨rfl,p3.1,p3.2,⟨_,rfl⟩,fun hb => ?_⟩)
 dsimp only at hb ⊢
 rw [e3] at hb
 obtain ⟨hb2,m3,-⟩:=Z85 hb
 rw [←e3] at m3
 rw [e2] at hb2
 obtain ⟨hb1,m2,-⟩:=Zdn p1.2.1 hb2
 rw [←e2] at m2
 have l2:=m2.le;have l3:=m3.le
 simp only [List.length_singleton] at l2
 rw [e1] at hb1
 obtain ⟨-,m1,-⟩:=Z85 hb1
 rw [←e1] at m1
 have l1:=m1.le
 omega
theorem Z7w (s:ByteArray) (hs:s.size≤1048576) (N st:Int):∀ (m:Nat) (i a:Int) (b:Bool) (acc:List S162),0≤a→a≤s.size→(acc.length:Int)≤a + (if b = true then 1 else 0)→(s.size:Int) - a + (if b = true then 0 else 1)≤m →
  To (fun k => ZJ.l0 k N i s a b st acc) (fun r => r.1 = s∧r.2.2.2.1 = st∧r.2.2.2.2.length≤s.size + 1):=by
 intro m
 induction m with
 | zero =>
  intro i a b acc h0 h1 h2 h3
  obtain rfl:b = true:=by cases b <;> simp_all;omega
  simp only [if_true] at h2
  refine To.step (fun _ => rfl) ?_
  simp only [ZJ.l0]
  exact To.ite (fun _ => To.pos (by simp) (To.now ⟨rfl,rfl,by dsimp only;omega⟩)) (fun _ => To.now ⟨rfl,rfl,by dsimp only;omega⟩)
 | succ m ih =>
  intro i a b acc h0 h1 h2 h3
  refine To.step (fun _ => rfl) ?_
  simp only [ZJ.l0]
  cases b with
  | true =>
   simp only [if_true] at h2
   exact To.ite (fun _ => To.pos (by simp) (To.now ⟨rfl,rfl,by dsimp only;omega⟩)) (fun _ => To.now ⟨rfl,rfl,by dsimp only;omega⟩)
  | false =>
   simp only [Bool.false_eq_true,if_false] at h2 h3
   refine To.ite (fun c => To.neg (by simp) (To.bind (Z7H s (by omega) a h0 h1 st acc (by omega)) (fun r p => ?_))) (fun c => To.now ⟨rfl,rfl,by dsimp only;omega⟩)
   obtain ⟨st',out',s',a',b'⟩:=r
   obtain ⟨p0,p1,p2,⟨x,p3⟩,p5⟩:=p
   dsimp only at p0 p1 p2 p3 p5 ⊢
   subst p0
   subst p1
   subst p3
   cases b' with
   | true =>
    refine To.step (fun _ => rfl) ?_
    simp only [ZJ.l0]
    exact To.ite (fun _ => To.pos (by simp) (To.now ⟨rfl,rfl,by simp;omega⟩)) (fun _ => To.now ⟨rfl,rfl,by simp;omega⟩)
   | false =>
    have:=p5 rfl
    exact ih _ a' false (acc++[x]) p2.1 p2.2 (by simp;omega) (by simp;omega)
theorem Z9d (s:ByteArray) (hs:s.size≤1048575):To (fun k => Z1B.f k s) (BDec s):=by
 unfold Z1B.f
 refine To.bind (To.ev (P:=fun r => r = Z0e s 0 false) (ZV s 0 false (by omega)) rfl) (fun r1 e1 => ?_)
 have p1:r1.2.1 = s∧0≤r1.2.2.1∧r1.2.2.1≤s.size:=by rw [e1];exact ⟨Z12 _ _ _,Z0E (by omega) (by omega)⟩
 rw [p1.1]
 refine To.bind (P:=fun (r:ByteArray×Int×Bool×Int×List S162) => r.1 = s∧r.2.2.2.1 = r1.1∧r.2.2.2.2.length≤s.size + 1) ?_ (fun r p => ?_)
 ·unfold ZJ.f
  refine To.bind (To.ev (P:=fun r => r = Z0e s r1.2.2.1 r1.2.2.2) (ZV s _ _ (by omega)) rfl) (fun r2 e2 => ?_)
  have p2:r2.2.1 = s∧0≤r2.2.2.1∧r2.2.2.1≤s.size:=by rw [e2];exact ⟨Z12 _ _ _,Z0E p1.2.1 p1.2.2⟩
  rw [p2.1]
  exact Z7w s (by omega) r2.1 r1.1 (s.size + 1) 0 r2.2.2.1 r2.2.2.2 [] p2.2.1 p2.2.2 (by simp;split <;> omega) (by split <;> omega)
 ·refine To.bind (To.ev (P:=fun z => z = Z4 r.2.2.2.1 r.2.2.2.2) (Z4B _ _ (by omega)) rfl) (fun z ez => ?_)
  refine To.ite (fun _ => To.now (Or.inl rfl)) (fun _ => To.ite (fun q1 => To.ite (fun q2 => To.now (Or.inr ⟨_,_,rfl,?_⟩)) (fun _ => To.now (Or.inl rfl))) (fun _ => To.now (Or.inl rfl)))
  rw [←ez]
  exact Prod.ext (toList_inj.1 q2) q1
theorem Z8e (s:ByteArray) (hs:s.size≤1048576) (st:Int):∀ (rest:List S162) (i:Nat) (acc:List S162) (a b:Int),(∀ x∈rest,(1≤x.f0.size∧x.f0.size≤10)∧x.f1.size≤40)→i + rest.length≤60→acc.length = i→At s a (rest.flatMap Z10) b →
  Ev (fun k => ZJ.l0 k ((i + rest.length:Nat):Int) (i:Int) s a false st acc) (s,b,false,st,acc++rest):=by
 intro rest
 induction rest with
 | nil =>
  intro i acc a b h1 h2 h3 h4
  refine Ev.step (fun _ => rfl) ?_
  simp only [ZJ.l0]
  have:=h4.le
  refine Ev.neg (by simp) (Ev.done ?_)
  simp only [List.flatMap_nil,List.length_nil] at this
  rw [List.append_nil,show a = b by omega]
 | cons x t ih =>
  intro i acc a b h1 h2 h3 h4
  rw [List.length_cons] at h2
  obtain ⟨z0,z1⟩:=h1 x List.mem_cons_self
  rw [List.flatMap_cons,Z10,List.append_assoc] at h4
  obtain ⟨q1,h4⟩:=h4.split
  obtain ⟨q2,h4⟩:=at_cons h4
  obtain ⟨q3,h4⟩:=At.split (P:=sh x.f1) h4
  have l1:=q1.le;have l2:=q2.le;have l3:=q3.le
  refine Ev.step (fun _ => rfl) ?_
  simp only [ZJ.l0,Z1x.f,Z5 (show i≤9223372036854775806 by omega)]
  refine Ev.pos (by simp only [List.length_cons];omega) (Ev.neg (by simp) (Ev.bind (a:=(st,acc++[x],s,a + ((sh x.f0).length:Int) + 1 + ((sh x.f1).length:Int),false)) ?_ ?_))
  ·refine Ev.bind (Ev.eq (Z33 s a false (by omega)) (Z3B q1 (by omega))) (Ev.call ((Z57 s (a + ((sh x.f0).length:Int)) false (by omega) (by omega) (by omega)).trans (congrArg some (curByte_fwd q2))) (Ev.bind (Ev.eq (Z33 s _ false (by omega)) (Z3B q3 (by omega))) (Ev.pos (by omega) (Ev.done ?_))))
   simp only [(flag_at x.f2).2.2.2]
  ·have:=ih (i + 1) (acc++[x]) _ b (fun y hy => h1 y (List.mem_cons_of_mem _ hy)) (by omega) (by simp [h3]) h4
   rw [show i + 1 + t.length = i + (x::t).length by simp;omega] at this
   exact Ev.eq this (by simp)
theorem Z7J (s:ByteArray) (hs:s.size≤1048576) (st:Int) (l:List S162) (h:Z4 st l = (s,true)):Ev (fun k => Z1B.f k s) (st,l,true):=by
 obtain ⟨hk,hb⟩:=Z3A h
 obtain ⟨b1,b2,b3⟩:=Z0V hk
 have hw:=At.whole s
 rw [hb] at hw
 obtain ⟨q1,hw⟩:=hw.split
 obtain ⟨q2,hw⟩:=hw.split
 unfold Z1B.f ZJ.f
 refine Ev.bind (Ev.eq (ZV s 0 false (by omega)) (Z1Z q1 (by omega))) (Ev.bind (a:=(s,(s.size:Int),false,st,l)) ?_ ?_)
 ·refine Ev.bind (Ev.eq (ZV s _ false (by omega)) (Z1Z q2 (by omega))) ?_
  have:=Z8e s hs st l 0 [] _ _ b3 (by omega) rfl hw
  rw [Nat.zero_add] at this
  rw [Int.toNat_of_nonneg b1.1]
  exact this
 ·exact Ev.bind (Ev.eq (Z4B st l (by omega)) h) (Ev.neg (by simp) (Ev.pos rfl (Ev.pos rfl (Ev.now _))))
def RB (s:ByteArray) (r:Int×List S162×Bool):Prop:=Ev (fun k => Zc.f k s) r∧Ev (fun k => Z1B.f k s) r∧(r.2.2 = true→Z2D r.1 r.2.1 = true)
theorem ZcB (s:ByteArray) (hs:s.size≤1048575):∃ r,RB s r:=by
 by_cases hex:∃ st l,Z4 st l = (s,true)
 ·obtain ⟨st,l,h⟩:=hex
  exact ⟨(st,l,true),Z5f s (by omega) st l h,Z7J s (by omega) st l h,fun _ => (Z3A h).1⟩
 ·obtain ⟨r,hr,p⟩:=Z5G s hs
  obtain ⟨r',hr',p'⟩:=Z9d s hs
  rcases p with rfl | ⟨st,l,-,h⟩
  ·rcases p' with rfl | ⟨st,l,-,h⟩
   ·exact ⟨_,hr,hr',fun h => by cases h⟩
   ·exact absurd ⟨st,l,h⟩ hex
  ·exact absurd ⟨st,l,h⟩ hex
def Z27 (seg:Int):Int→List S162→List S145
 | _,[] => []
 | a,x::t => (if x.f2 = true then (⟨x.f0,seg,0,-1⟩:S145) else ⟨x.f0,seg,a + ((ZM x.f0).size:Int) + 1 + ((Zx x.f1.size).size:Int),(x.f1.size:Int)⟩)::Z27 seg (a + ((ZM x.f0).size:Int) + 1 + ((Zx x.f1.size).size:Int) + (x.f1.size:Int)) t
theorem Z3U (seg:Int):∀ (l:List S162) (a:Int),(Z27 seg a l).length = l.length
 | [],_ => rfl
 | x::t,a => by rw [Z27,List.length_cons,List.length_cons,Z3U seg t]
theorem short_sz (t:ByteArray):(ZM t).size = (Zx t.size).size + t.size:=by rw [ZM,size_append]
theorem Z4g (s:ByteArray):(frame s).1.size≤9009:=by
 unfold frame
 split
 ·rename_i h
  have:=Zr.1 h
  have hv:=Z1f (show s.size≤34359738367 by omega)
  have h4:=Z3r (sumOf s)
  simp only [size_append];omega
 ·exact Nat.zero_le _
def Z1K (rb:ByteArray→Int×List S162×Bool) (seg:Int):Int→List ByteArray→List S145×List ByteArray×Int→List S145×List ByteArray×Int
 | _,[],r => r
 | a,c::t,r => if (rb c).2.2 = true then Z1K rb seg (a + ((frame c).1.size:Int)) t (r.1++Z27 seg (a + ((frame c).1.size:Int) - (c.size:Int) + ((Zx (rb c).1.toNat).size:Int) + ((Zx (rb c).2.1.length).size:Int)) (rb c).2.1,r.2.1++[c],mx r.2.2 (rb c).1) else r
theorem Z80 (seg:Int) (tx:List ByteArray) (stamp:Int) (list:List ByteArray) (at_:Int) (i:Nat) (f:ByteArray) (st:Int) (l:List S162) (hl:l.length≤60) (hd:∀ x∈l,(1≤x.f0.size∧x.f0.size≤10)∧x.f1.size≤40) (hi:i < list.length) (htx:tx.length≤20000) (r:List S145×List ByteArray×Int):∀ (rest:List S162) (n:Nat) (a:Int) (sp:List S145),l.drop n = rest→sp.length + rest.length≤10000000→-1000000≤a→a + 1000 * (rest.length:Int)≤1000000000000 →
  Ev (fun k => Z01.l0 k seg (sp++Z27 seg a rest) (tx++[rdOf ByteArray.empty list (i:Int)]) (mx stamp st) list (wrap64 (at_ + (f.size:Int))) (wrap64 ((i:Int) + 1))) r →
  Ev (fun k => Z01.l1 k seg sp tx stamp list at_ (i:Int) f a (n:Int) st l) r:=by
 intro rest
 induction rest with
 | nil =>
  intro n a sp h hs h0 h1 hk
  have:=ZE h
  rw [Z27,List.append_nil,mx] at hk
  refine Ev.step (fun _ => rfl) ?_
  simp only [Z01.l1]
  refine Ev.neg (by omega) (Ev.ite (fun c => Ev.pos (by omega) (Ev.pos (by omega) (Ev.pos (by omega) ?_))) (fun c => Ev.pos (by omega) (Ev.pos (by omega) (Ev.pos (by omega) ?_))))
  ·rw [if_pos (show stamp < st by omega)] at hk;exact hk
  ·rw [if_neg (show ¬ stamp < st by omega)] at hk;exact hk
 | cons x t ih =>
  intro n a sp h hs h0 h1 hk
  obtain ⟨h2,-,h3⟩:=Zi h
  have hm:=hd x (List.mem_of_mem_drop (h ▸ List.mem_cons_self))
  have s0:=Z2E (show x.f0.size≤34359738367 by omega)
  have s1:=Z1f (show x.f1.size≤34359738367 by omega)
  rw [List.length_cons] at h1 hs
  rw [Z27] at hk
  refine Ev.step (fun _ => rfl) ?_
  simp only [Z01.l1,Z34 h,Z5 (show n≤9223372036854775806 by omega)]
  refine Ev.pos (by omega) (Ev.pos (by omega) (Ev.bind (Z3d x.f0 (by omega)) (Ev.bind (Z1C x.f1.size (by omega)) ?_)))
  rw [Z9 (n:=a + ((ZM x.f0).size:Int)) (by omega) (by omega),Z9 (n:=a + ((ZM x.f0).size:Int) + 1) (by omega) (by omega),Z9 (n:=a + ((ZM x.f0).size:Int) + 1 + ((Zx x.f1.size).size:Int)) (by omega) (by omega),Z9 (n:=a + ((ZM x.f0).size:Int) + 1 + ((Zx x.f1.size).size:Int) + (x.f1.size:Int)) (by omega) (by omega)]
  refine Ev.ite (fun c => Ev.pos (by omega) ?_) (fun c => Ev.pos (by omega) ?_)
  ·rw [if_pos c] at hk
   exact ih (n + 1) _ _ h3 (by simp;omega) (by omega) (by omega) (by simpa using hk)
  ·rw [if_neg c] at hk
   exact ih (n + 1) _ _ h3 (by simp;omega) (by omega) (by omega) (by simpa using hk)
theorem Z9I (rb:ByteArray→Int×List S162×Bool) (hrb:∀ c,c.size≤9000→Ev (fun k => Zc.f k c) (rb c)∧((rb c).2.2 = true→Z2D (rb c).1 (rb c).2.1 = true)) (seg:Int) (list:List ByteArray) (hl:list.length≤20000) (hc:∀ c∈list,c.size≤9000):∀ (rest:List ByteArray) (n:Nat) (a:Int) (sp:List S145) (tx:List ByteArray) (stamp:Int),list.drop n = rest→sp.length≤60 * n→tx.length = n→0≤a→a≤9009 * (n:Int) →
  Ev (fun k => Z01.l0 k seg sp tx stamp list a (n:Int)) (Z1K rb seg a rest (sp,tx,stamp)):=by
 intro rest
 induction rest with
 | nil =>
  intro n a sp tx stamp h hs ht h0 h1
  have:=ZE h
  refine Ev.step (fun _ => rfl) ?_
  simp only [Z01.l0]
  exact Ev.neg (by omega) (Ev.now _)
 | cons x r ih =>
  intro n a sp tx stamp h hs ht h0 h1
  obtain ⟨h2,-,h3⟩:=Zi h
  have hm:=hc x (List.mem_of_mem_drop (h ▸ List.mem_cons_self))
  have hf:=Z4g x
  obtain ⟨q2,q3⟩:=hrb x hm
  refine Ev.step (fun _ => rfl) ?_
  simp only [Z01.l0,Z6q h]
  rw [Z1K]
  refine Ev.pos (by omega) (Ev.pos (by omega) (Ev.bind q2 (Ev.ite (fun c => ?_) (fun c => Ev.done (by rw [if_neg c])))))
  rw [if_pos c]
  obtain ⟨b1,b2,b3⟩:=Z0V (q3 c)
  have s1:=Z1f (show (rb x).1.toNat≤34359738367 by omega)
  have s2:=Z1f (show (rb x).2.1.length≤34359738367 by omega)
  refine Ev.bind (Z4a x (by omega)) (Ev.bind (Z2H (rb x).1 (by omega) (by omega)) (Ev.bind (Z1C (rb x).2.1.length (by omega)) ?_))
  rw [Z9 (n:=a + ((frame x).1.size:Int)) (by omega) (by omega),Z9 (n:=a + ((frame x).1.size:Int) - (x.size:Int)) (by omega) (by omega),Z9 (n:=a + ((frame x).1.size:Int) - (x.size:Int) + ((Zx (rb x).1.toNat).size:Int)) (by omega) (by omega),Z9 (n:=a + ((frame x).1.size:Int) - (x.size:Int) + ((Zx (rb x).1.toNat).size:Int) + ((Zx (rb x).2.1.length).size:Int)) (by omega) (by omega)]
  refine Z80 seg tx stamp list a n (frame x).1 (rb x).1 (rb x).2.1 b2 b3 (by omega) (by omega) _ (rb x).2.1 0 _ sp rfl (by omega) (by omega) (by omega) ?_
  ·rw [Z6q h,Z9 (n:=a + ((frame x).1.size:Int)) (by omega) (by omega),Z5 (show n≤9223372036854775806 by omega)]
   exact ih (n + 1) _ _ _ _ h3 (by rw [List.length_append,Z3U];omega) (by simp [ht]) (by omega) (by omega)
theorem ZbA (rb:ByteArray→Int×List S162×Bool) (hrb:∀ c,c.size≤9000→Ev (fun k => Zc.f k c) (rb c)∧((rb c).2.2 = true→Z2D (rb c).1 (rb c).2.1 = true)) (s:ByteArray) (seg:Int):Ev (fun k => Z01.f k s seg) (Z1K rb seg 0 (Z00 s).1 ([],[],-1)):=by
 unfold Z01.f
 obtain ⟨u1,u2⟩:=Z2g s
 exact Ev.bind (Zby s) (Z9I rb hrb seg _ u1 u2 _ 0 0 [] [] (-1) rfl (by simp) rfl (by omega) (by omega))
theorem Zdm (rb:ByteArray→Int×List S162×Bool) (hrb:∀ c,c.size≤9000→((rb c).2.2 = true→Z2D (rb c).1 (rb c).2.1 = true)) (seg:Int):∀ (l:List ByteArray) (a:Int) (r:List S145×List ByteArray×Int),(∀ c∈l,c.size≤9000)→(Z1K rb seg a l r).1.length≤r.1.length + 60 * l.length∧(Z1K rb seg a l r).2.1.length≤r.2.1.length + l.length
 | [],a,r,_ => by simp [Z1K]
 | c::t,a,r,h => by
  rw [Z1K]
  split
  ·rename_i hc
   have hb:=(Z0V (hrb c (h c List.mem_cons_self) hc)).2.1
   have:=Zdm rb hrb seg t (a + ((frame c).1.size:Int)) (r.1++Z27 seg (a + ((frame c).1.size:Int) - (c.size:Int) + ((Zx (rb c).1.toNat).size:Int) + ((Zx (rb c).2.1.length).size:Int)) (rb c).2.1,r.2.1++[c],mx r.2.2 (rb c).1) (fun y hy => h y (List.mem_cons_of_mem _ hy))
   simp only [List.length_append,Z3U,List.length_singleton] at this
   simp only [List.length_cons]
   omega
  ·simp only [List.length_cons];omega
theorem Z9s (seg:Int) (l:List S162) (hl:l.length≤60) (hd:∀ x∈l,(1≤x.f0.size∧x.f0.size≤10)∧x.f1.size≤40):∀ (rest:List S162) (n:Nat) (a:Int) (acc:List S145),l.drop n = rest→acc.length = n→-1000000≤a→a + 1000 * (rest.length:Int)≤1000000000000 →
  Ev (fun k => Z0X.l0 k seg a acc l (l.length:Int) (n:Int)) (acc++Z27 seg a rest):=by
 intro rest
 induction rest with
 | nil =>
  intro n a acc h ha h0 h1
  have:=ZE h
  refine Ev.step (fun _ => rfl) ?_
  simp only [Z0X.l0]
  exact Ev.neg (by omega) (Ev.done (by simp [Z27]))
 | cons x r ih =>
  intro n a acc h ha h0 h1
  obtain ⟨h2,-,h3⟩:=Zi h
  have hm:=hd x (List.mem_of_mem_drop (h ▸ List.mem_cons_self))
  have s0:=Z2E (show x.f0.size≤34359738367 by omega)
  have s1:=Z2E (show x.f1.size≤34359738367 by omega)
  have e1:=short_sz x.f1
  rw [List.length_cons] at h1
  refine Ev.step (fun _ => rfl) ?_
  simp only [Z0X.l0,Z34 h,Z5 (show n≤9223372036854775806 by omega)]
  refine Ev.pos (by omega) (Ev.pos (by omega) (Ev.pos (by omega) (Ev.bind (Z4Z x.f1 (by omega)) (Ev.bind (Z4Z x.f0 (by omega)) ?_))))
  rw [Z9 (n:=((ZM x.f0).size:Int) + 1) (by omega) (by omega),Z9 (n:=((ZM x.f0).size:Int) + 1 + ((ZM x.f1).size:Int)) (by omega) (by omega),Z9 (n:=a + (((ZM x.f0).size:Int) + 1 + ((ZM x.f1).size:Int))) (by omega) (by omega),Z9 (n:=a + (((ZM x.f0).size:Int) + 1 + ((ZM x.f1).size:Int)) - (x.f1.size:Int)) (by omega) (by omega)]
  have eA:a + (((ZM x.f0).size:Int) + 1 + ((ZM x.f1).size:Int)) = a + ((ZM x.f0).size:Int) + 1 + ((Zx x.f1.size).size:Int) + (x.f1.size:Int):=by omega
  have eB:a + ((ZM x.f0).size:Int) + 1 + ((Zx x.f1.size).size:Int) + (x.f1.size:Int) - (x.f1.size:Int) = a + ((ZM x.f0).size:Int) + 1 + ((Zx x.f1.size).size:Int):=by omega
  rw [eA,eB,Z27]
  refine Ev.ite (fun c => Ev.pos (by omega) ?_) (fun c => Ev.pos (by omega) ?_)
  ·rw [if_pos c]
   have:=ih (n + 1) (a + ((ZM x.f0).size:Int) + 1 + ((Zx x.f1.size).size:Int) + (x.f1.size:Int)) (acc++[(⟨x.f0,seg,0,-1⟩:S145)]) h3 (by simp [ha]) (by omega) (by omega)
   exact Ev.eq this (by simp)
  ·rw [if_neg c]
   have:=ih (n + 1) (a + ((ZM x.f0).size:Int) + 1 + ((Zx x.f1.size).size:Int) + (x.f1.size:Int)) (acc++[(⟨x.f0,seg,a + ((ZM x.f0).size:Int) + 1 + ((Zx x.f1.size).size:Int),(x.f1.size:Int)⟩:S145)]) h3 (by simp [ha]) (by omega) (by omega)
   exact Ev.eq this (by simp)
theorem Zc0 (st:Int) (l:List S162) (c:ByteArray) (a seg:Int) (hk:Z2D st l = true) (h0:-100000≤a) (h1:a≤10000000000):Ev (fun k => Z0X.f k st l c a seg) (Z27 seg (a + ((Zx st.toNat).size:Int) + ((Zx l.length).size:Int)) l):=by
 obtain ⟨b1,b2,b3⟩:=Z0V hk
 have s1:=Z1f (show st.toNat≤34359738367 by omega)
 have s2:=Z1f (show l.length≤34359738367 by omega)
 unfold Z0X.f
 refine Ev.bind (ZcP st l.length b1 b2) ?_
 have e:wrap64 (a + ((Zx st.toNat++Zx l.length).size:Int)) = a + ((Zx st.toNat).size:Int) + ((Zx l.length).size:Int):=by
  rw [size_append,Z9 (by omega) (by omega)];omega
 dsimp only
 rw [e]
 exact Ev.eq (Z9s seg l b2 b3 l 0 _ [] rfl rfl (by omega) (by omega)) (by simp)
theorem Z8q (s:ByteArray) (hs:s.size≤20000):∀ (m:Nat) (acc:List ByteArray) (a:Int),0≤a→a≤s.size→(acc.length:Int)≤a→(s.size:Int) - a < m→Ev (fun k => ZR.l0 k s acc a) (unfr s m acc a):=by
 intro m
 induction m with
 | zero => intro acc a h0 h1 h2 h3;omega
 | succ m ih =>
  intro acc a h0 h1 h2 h3
  refine Ev.step (fun _ => rfl) ?_
  simp only [ZR.l0]
  rw [unfr]
  refine Ev.bind (Z5d s a (by omega)) ?_
  cases hb:(Zk s a).2.2
  ·have e:Z0H s a = none:=by rw [Z0H,if_pos hb]
   refine Ev.neg (by simp) (Ev.step (fun _ => rfl) ?_)
   simp only [ZR.j1,e]
   exact Ev.pos trivial (Ev.now _)
  ·obtain ⟨p1,p2,p3,p4,p5,p6,-,-⟩:=Z2x (Z7x hb)
   have es:wrap64 (wrap64 ((s.size:Int) - (Zk s a).2.1) - 4) = s.size - (Zk s a).2.1 - 4:=by
    rw [Z9 (n:=(s.size:Int) - (Zk s a).2.1) (by omega) (by omega),Z9 (by omega) (by omega)]
   have e4:wrap64 ((Zk s a).2.1 + 4) = (Zk s a).2.1 + 4:=Z9 (by omega) (by omega)
   have eb:wrap64 ((Zk s a).2.1 + 4 + (Zk s a).1) = (Zk s a).2.1 + 4 + (Zk s a).1:=Z9 (by omega) (by omega)
   refine Ev.pos rfl (Ev.step (fun _ => rfl) ?_)
   simp only [ZR.j1,es,e4,eb]
   by_cases h4:(Zk s a).1 > (s.size:Int) - (Zk s a).2.1 - 4
   ·have e:Z0H s a = none:=by rw [Z0H,if_neg (by simp [hb]),if_pos h4]
    rw [e]
    exact Ev.pos (decide_eq_true h4) (Ev.now _)
   ·refine Ev.neg (by simp;omega) (Ev.pos (by omega) (Ev.pos (by omega) (Ev.pos (by omega) (Ev.bind (Z4W _ (by rw [ByteArray.size_extract];omega)) (Ev.ite (fun h5 => Ev.pos (by omega) (Ev.pos (by omega) (Ev.ite (fun h6 => Ev.pos (by omega) ?_) (fun h6 => ?_)))) (fun h5 => ?_))))))
    ·have e:Z0H s a = some (s.extract ((Zk s a).2.1 + 4).toNat ((Zk s a).2.1 + 4 + (Zk s a).1).toNat,(Zk s a).2.1 + 4 + (Zk s a).1):=by
      rw [Z0H,if_neg (by simp [hb]),if_neg h4,if_pos ⟨h5,toList_inj.1 h6⟩]
     rw [e]
     exact ih _ _ (by omega) (by omega) (by simp only [List.length_append,List.length_singleton];omega) (by omega)
    ·have e:Z0H s a = none:=by rw [Z0H,if_neg (by simp [hb]),if_neg h4,if_neg (fun e => h6 (toList_inj.2 e.2))]
     rw [e];exact Ev.now _
    ·have e:Z0H s a = none:=by rw [Z0H,if_neg (by simp [hb]),if_neg h4,if_neg (fun e => h5 e.1)]
     rw [e];exact Ev.now _
theorem Z6k (s:ByteArray):Ev (fun k => ZR.f k s) (Z00 s):=by
 unfold ZR.f Z00
 refine Ev.ite (fun hc => Ev.done ?_) (fun hc => ?_)
 ·rw [if_pos (show s.size > 20000 by omega)]
 ·rw [if_neg (show ¬ s.size > 20000 by omega)]
  exact Z8q s (by omega) _ [] 0 (by omega) (by omega) (by simp) (by omega)
def Z3n (rb:ByteArray→Int×List S162×Bool):Int→List ByteArray→List S113
 | _,[] => []
 | a,c::t => if (rb c).2.2 = true then (⟨⟨(rb c).1,(rb c).2.1⟩,c,a + ((frame c).1.size:Int) - (c.size:Int)⟩:S113)::Z3n rb (a + ((frame c).1.size:Int)) t else []
theorem Z7M (rb:ByteArray→Int×List S162×Bool) (hrb:∀ c,c.size≤9000→RB c (rb c)) (list:List ByteArray) (hl:list.length≤20000) (hc:∀ c∈list,c.size≤9000):∀ (rest:List ByteArray) (n:Nat) (a:Int) (acc:List S113),list.drop n = rest→acc.length = n→0≤a→a≤9009 * (n:Int) →
  To (fun k => ZW.l0 k acc a list (list.length:Int) (n:Int)) (fun r => r.1 = acc++Z3n rb a rest):=by
 intro rest
 induction rest with
 | nil =>
  intro n a acc h ha h0 h1
  have:=ZE h
  refine To.step (fun _ => rfl) ?_
  simp only [ZW.l0]
  exact To.neg (by omega) (To.now (by simp [Z3n]))
 | cons x r ih =>
  intro n a acc h ha h0 h1
  obtain ⟨h2,-,h3⟩:=Zi h
  have hm:=hc x (List.mem_of_mem_drop (h ▸ List.mem_cons_self))
  have hf:=Z4g x
  obtain ⟨-,q2,q3⟩:=hrb x hm
  refine To.step (fun _ => rfl) ?_
  simp only [ZW.l0,Z6q h,Z5 (show n≤9223372036854775806 by omega)]
  refine To.pos (by omega) (To.pos (by omega) (To.pos (by omega) (To.bind (To.ev (P:=fun z => z = rb x) q2 rfl) (fun z ez => ?_))))
  subst ez
  rw [Z3n]
  refine To.ite (fun c => ?_) (fun c => To.now (by rw [if_neg c];simp))
  rw [if_pos c]
  refine To.bind (To.ev (P:=fun z => z = frame x) (Z4W x (by omega)) rfl) (fun z ez => ?_)
  subst ez
  rw [Z9 (n:=a + ((frame x).1.size:Int)) (by omega) (by omega),Z9 (n:=a + ((frame x).1.size:Int) - (x.size:Int)) (by omega) (by omega)]
  refine To.pos (by omega) (To.mono (ih (n + 1) (a + ((frame x).1.size:Int)) _ h3 (by simp [ha]) (by omega) (by omega)) (fun z hz => ?_))
  rw [hz];simp
theorem Z9J (rb:ByteArray→Int×List S162×Bool) (hrb:∀ c,c.size≤9000→RB c (rb c)) (s:ByteArray):To (fun k => ZW.f k s) (fun r => r.1 = Z3n rb 0 (Z00 s).1):=by
 unfold ZW.f
 obtain ⟨u1,u2⟩:=Z2g s
 refine To.bind (To.ev (P:=fun z => z = Z00 s) (Z6k s) rfl) (fun z ez => ?_)
 subst ez
 exact To.mono (Z7M rb hrb _ u1 u2 _ 0 0 [] rfl rfl (by omega) (by omega)) (fun z hz => by rw [hz];simp)
theorem rdP_drop {xs:List S113} {n:Nat} {x:S113} {t:List S113} (h:xs.drop n = x::t):Z3N xs (n:Int) = x:=by
 unfold Z3N
 rw [Int.toNat_natCast];exact (Zi h).2.1 _
def scanIn (seg:Int):List S113→List S145×List ByteArray×Int→List S145×List ByteArray×Int
 | [],r => r
 | p::t,r => scanIn seg t (r.1++Z27 seg (p.f2 + ((Zx p.f0.f0.toNat).size:Int) + ((Zx p.f0.f1.length).size:Int)) p.f0.f1,r.2.1++[p.f1],mx r.2.2 p.f0.f0)
theorem Z8g (rb:ByteArray→Int×List S162×Bool) (seg:Int):∀ (l:List ByteArray) (a:Int) (r:List S145×List ByteArray×Int),scanIn seg (Z3n rb a l) r = Z1K rb seg a l r
 | [],_,_ => rfl
 | c::t,a,r => by
  rw [Z3n,Z1K]
  split
  ·rw [scanIn,Z8g rb seg t]
  ·rfl
theorem Zd1 (rb:ByteArray→Int×List S162×Bool) (hrb:∀ c,c.size≤9000→((rb c).2.2 = true→Z2D (rb c).1 (rb c).2.1 = true)):∀ (l:List ByteArray) (a:Int),(∀ c∈l,c.size≤9000)→0≤a→(Z3n rb a l).length≤l.length∧∀ p∈Z3n rb a l,Z2D p.f0.f0 p.f0.f1 = true∧-9000≤p.f2∧p.f2≤a + 9009 * (l.length:Int)
 | [],_,_,_ => ⟨Nat.le_refl _,fun p hp => by cases hp⟩
 | c::t,a,h,h0 => by
  have hf:=Z4g c
  have hc:=h c List.mem_cons_self
  rw [Z3n]
  split
  ·rename_i hk
   obtain ⟨i1,i2⟩:=Zd1 rb hrb t (a + ((frame c).1.size:Int)) (fun y hy => h y (List.mem_cons_of_mem _ hy)) (by omega)
   refine ⟨by simp only [List.length_cons];omega,fun p hp => ?_⟩
   rcases List.mem_cons.1 hp with rfl | hp
   ·exact ⟨hrb c hc hk,by dsimp only;omega,by dsimp only;simp only [List.length_cons];omega⟩
   ·obtain ⟨j1,j2,j3⟩:=i2 p hp
    exact ⟨j1,j2,by simp only [List.length_cons];omega⟩
  ·exact ⟨by simp,fun p hp => by cases hp⟩
theorem Z9D (seg:Int) (ps:List S113) (hl:ps.length≤20000) (hp:∀ p∈ps,Z2D p.f0.f0 p.f0.f1 = true∧-9000≤p.f2∧p.f2≤1000000000):∀ (rest:List S113) (n:Nat) (sp:List S145) (tx:List ByteArray) (stamp:Int),ps.drop n = rest→sp.length≤60 * n→tx.length = n →
  Ev (fun k => Z1d.l0 k seg sp tx stamp ps (ps.length:Int) (n:Int)) (scanIn seg rest (sp,tx,stamp)):=by
 intro rest
 induction rest with
 | nil =>
  intro n sp tx stamp h hs ht
  have:=ZE h
  refine Ev.step (fun _ => rfl) ?_
  simp only [Z1d.l0]
  exact Ev.neg (by omega) (Ev.now _)
 | cons x r ih =>
  intro n sp tx stamp h hs ht
  obtain ⟨h2,-,h3⟩:=Zi h
  obtain ⟨m1,m2,m3⟩:=hp x (List.mem_of_mem_drop (h ▸ List.mem_cons_self))
  have b2:=(Z0V m1).2.1
  refine Ev.step (fun _ => rfl) ?_
  simp only [Z1d.l0,rdP_drop h,Z5 (show n≤9223372036854775806 by omega)]
  rw [scanIn]
  exact Ev.pos (by omega) (Ev.pos (by omega) (Ev.pos (by omega) (Ev.bind (Zc0 _ _ _ _ seg m1 (by omega) (by omega)) (Ev.pos (by rw [Z3U];omega) (Ev.pos (by omega) (ih (n + 1) _ _ _ h3 (by rw [List.length_append,Z3U];omega) (by simp [ht])))))))
theorem ZbT (rb:ByteArray→Int×List S162×Bool) (hrb:∀ c,c.size≤9000→RB c (rb c)) (s:ByteArray) (seg:Int):Ev (fun k => Z1d.f k s seg) (Z1K rb seg 0 (Z00 s).1 ([],[],-1)):=by
 obtain ⟨u1,u2⟩:=Z2g s
 obtain ⟨i1,i2⟩:=Zd1 rb (fun c hc => (hrb c hc).2.2) (Z00 s).1 0 u2 (by omega)
 unfold Z1d.f
 obtain ⟨z,hz,ez⟩:=Z9J rb hrb s
 refine Ev.bind hz ?_
 rw [ez,←Z8g rb]
 exact Z9D seg _ (by omega) (fun p hp => by have:=i2 p hp;exact ⟨this.1,this.2.1,by omega⟩) _ 0 [] [] (-1) rfl (by simp) rfl
theorem Z5F {l:List Int} (hl:l.length≤140737488351232) (N:Int) (hN:N≤5000):∀ (m n:Nat) (acc s:List Int) (i y:Int),5000 - n≤m→n≤5000→acc.length = n→Cu l s i →
  To (fun k => Z0Y.l0 k N acc (n:Int) s i y) (fun r => r.1.size≤5000∧Cu l r.2.1 r.2.2.1):=by
 intro m
 induction m with
 | zero =>
  intro n acc s i y h1 h2 h3 hc
  refine To.step (fun _ => rfl) ?_
  simp only [Z0Y.l0]
  exact To.neg (by omega) (To.now ⟨by rw [strOfNums_size];omega,hc⟩)
 | succ m ih =>
  intro n acc s i y h1 h2 h3 hc
  refine To.step (fun _ => rfl) ?_
  simp only [Z0Y.l0,Z5 (show n≤9223372036854775806 by omega)]
  exact To.ite (fun c => To.bind (Z2r hl y hc) (fun r p => To.pos (by omega) (ih (n + 1) _ _ _ _ (by omega) (by omega) (by simp [h3]) p.2.2))) (fun _ => To.now ⟨by rw [strOfNums_size];omega,hc⟩)
theorem ZaP {l:List Int} (hl:l.length≤140737488351232) {s:List Int} {i:Int} (y:Int) (h:Cu l s i) (n:Int):To (fun k => Z0Y.f k s i y n) (fun r => r.1.size≤5000∧Cu l r.2.1 r.2.2.1):=by
 unfold Z0Y.f
 exact To.ite (fun _ => Z5F hl 5000 (by omega) 5000 0 [] s i y (by omega) (by omega) rfl h) (fun c => Z5F hl n (by omega) 5000 0 [] s i y (by omega) (by omega) rfl h)
def layS (out:List S145) (s:S145):List S145 :=
 out.filter (fun x => lessK x.f0 s.f0)++(if s.f3 = -1 then [] else [s])++out.filter (fun x => lessK s.f0 x.f0)
theorem laySl (out:List S145) (s:S145):(layS out s).length≤out.length + 1:=by
 have h:∀ l:List S145,(l.filter fun x => lessK x.f0 s.f0).length + (l.filter fun x => lessK s.f0 x.f0).length≤l.length:=by
  intro l
  induction l with
  | nil => simp
  | cons x t ih =>
   have hn:¬ (lessK x.f0 s.f0 = true∧lessK s.f0 x.f0 = true):=fun e => by
    have:=Z1Y e.1 e.2
    rw [Z50] at this;cases this
   cases h1:lessK x.f0 s.f0 <;> cases h2:lessK s.f0 x.f0 <;> simp [h1,h2] <;> first | omega | exact absurd ⟨h1,h2⟩ hn
 have:=h out
 unfold layS
 split <;> simp <;> omega
theorem Zbu (l1 out:List S145) (n:Nat) (a:ByteArray) (b c d:Int) (ho:out.length≤4000000) (r:List S145):∀ (rest:List S145) (m:Nat) (acc:List S145),out.drop m = rest→acc.length + rest.length≤8388608 →
  Ev (fun k => Zf.l0 k l1 (acc++rest.filter fun x => lessK a x.f0) (wrap64 ((n:Int) + 1))) r→Ev (fun k => Zf.l2 k l1 out (n:Int) acc (m:Int) a b c d) r:=by
 intro rest
 induction rest with
 | nil =>
  intro m acc h hl hr
  have:=ZE h
  refine Ev.step (fun _ => rfl) ?_
  simp only [Zf.l2]
  refine Ev.neg (by omega) ?_
  simpa using hr
 | cons x t ih =>
  intro m acc h hl hr
  obtain ⟨h1,-,h3⟩:=Zi h
  rw [List.length_cons] at hl
  refine Ev.step (fun _ => rfl) ?_
  simp only [Zf.l2,Z1G h,Z5 (show m≤9223372036854775806 by omega)]
  refine Ev.pos (by omega) (Ev.pos (by omega) (Ev.ite (fun hc => Ev.pos (by omega) (ih (m + 1) _ h3 (by simp;omega) ?_)) (fun hc => ih (m + 1) _ h3 (by omega) ?_)))
  ·rw [List.filter_cons_of_pos (by exact hc)] at hr
   simpa using hr
  ·rw [List.filter_cons_of_neg (by exact hc)] at hr
   exact hr
theorem ZbL (l1 out:List S145) (n:Nat) (s:S145) (ho:out.length≤4000000) (r:List S145) (hr:Ev (fun k => Zf.l0 k l1 (layS out s) (wrap64 ((n:Int) + 1))) r):∀ (rest:List S145) (m:Nat) (acc:List S145),out.drop m = rest→acc.length≤m→acc++rest.filter (fun x => lessK x.f0 s.f0) = out.filter (fun x => lessK x.f0 s.f0) →
  Ev (fun k => Zf.l1 k l1 out (n:Int) acc (m:Int) s.f0 s.f1 s.f2 s.f3) r:=by
 intro rest
 induction rest with
 | nil =>
  intro m acc h hl he
  have:=ZE h
  rw [List.filter_nil,List.append_nil] at he
  have fin:∀ acc':List S145,acc' = acc++(if s.f3 = -1 then [] else [s])→Ev (fun k => Zf.j2 k l1 out (n:Int) acc' s.f0 s.f1 s.f2 s.f3) r:=by
   rintro acc' rfl
   refine Ev.step (fun _ => rfl) ?_
   simp only [Zf.j2]
   have hal:acc.length≤out.length:=by rw [he];exact List.length_filter_le _ _
   refine Zbu l1 out n s.f0 s.f1 s.f2 s.f3 ho r out 0 _ rfl (by simp;split <;> simp <;> omega) ?_
   rw [he]
   exact hr
  have hal:acc.length≤out.length:=by rw [he];exact List.length_filter_le _ _
  refine Ev.step (fun _ => rfl) ?_
  simp only [Zf.l1]
  refine Ev.neg (by omega) (Ev.ite (fun hc => fin _ (by rw [if_pos hc,List.append_nil])) (fun hc => Ev.pos (by omega) (fin _ (by rw [if_neg hc]))))
 | cons x t ih =>
  intro m acc h hl he
  obtain ⟨h1,-,h3⟩:=Zi h
  refine Ev.step (fun _ => rfl) ?_
  simp only [Zf.l1,Z1G h,Z5 (show m≤9223372036854775806 by omega)]
  refine Ev.pos (by omega) (Ev.pos (by omega) (Ev.ite (fun hc => Ev.pos (by omega) (ih (m + 1) _ h3 (by simp;omega) ?_)) (fun hc => ih (m + 1) _ h3 (by omega) ?_)))
  ·rw [List.filter_cons_of_pos (by exact hc)] at he
   rw [←he];simp
  ·rw [List.filter_cons_of_neg (by exact hc)] at he
   exact he
theorem ZaU (l1:List S145) (hl1:l1.length≤1048576):∀ (rest:List S145) (n:Nat) (out:List S145),l1.drop n = rest→out.length + rest.length≤4000000→Ev (fun k => Zf.l0 k l1 out (n:Int)) (rest.foldl layS out):=by
 intro rest
 induction rest with
 | nil =>
  intro n out h ho
  have:=ZE h
  refine Ev.step (fun _ => rfl) ?_
  simp only [Zf.l0]
  exact Ev.neg (by omega) (Ev.now _)
 | cons x t ih =>
  intro n out h ho
  obtain ⟨h1,-,h3⟩:=Zi h
  rw [List.length_cons] at ho
  refine Ev.step (fun _ => rfl) ?_
  simp only [Zf.l0,Z1G h]
  have:=laySl out x
  refine Ev.pos (by omega) (Ev.pos (by omega) (ZbL l1 out n x (by omega) _ ?_ out 0 [] rfl (by simp) (by simp)))
  rw [Z5 (show n≤9223372036854775806 by omega)]
  exact ih (n + 1) (layS out x) h3 (by omega)
def Z46 (l:List S145):Prop:=l.Pairwise fun x y => lessK x.f0 y.f0 = true
theorem ZdP:∀ {l:List S145} {p:Option ByteArray},dirIn p l = true→Z46 l∧∀ q,p = some q→∀ x∈l,lessK q x.f0 = true
 | [],p,_ => ⟨List.Pairwise.nil,fun _ _ x hx => by cases hx⟩
 | y::t,p,h => by
  rw [dirIn,Bool.and_eq_true,Bool.and_eq_true] at h
  obtain ⟨h1,h2⟩:=ZdP h.2.2
  refine ⟨List.pairwise_cons.mpr ⟨fun x hx => h2 _ rfl x hx,h1⟩,?_⟩
  rintro q rfl x hx
  rcases List.mem_cons.1 hx with rfl | hx
  ·exact h.2.1
  ·exact Z1Y h.2.1 (h2 _ rfl x hx)
theorem Z90 {l:List S145} (h:Z46 l) (s:S145):Z46 (layS l s):=by
 unfold layS Z46
 have h1:=List.Pairwise.filter (fun x:S145 => lessK x.f0 s.f0) h
 have h2:=List.Pairwise.filter (fun x:S145 => lessK s.f0 x.f0) h
 have m1:∀ x∈l.filter (fun x => lessK x.f0 s.f0),lessK x.f0 s.f0 = true:=fun x hx => (List.mem_filter.1 hx).2
 have m2:∀ x∈l.filter (fun x => lessK s.f0 x.f0),lessK s.f0 x.f0 = true:=fun x hx => (List.mem_filter.1 hx).2
 have m3:∀ x∈(if s.f3 = -1 then [] else [s]),x = s:=fun x hx => by split at hx <;> simp at hx;exact hx
 rw [List.pairwise_append,List.pairwise_append]
 refine ⟨⟨h1,by split <;> simp,fun x hx y hy => ?_⟩,h2,fun x hx y hy => ?_⟩
 ·rw [m3 y hy];exact m1 x hx
 ·rcases List.mem_append.1 hx with hx | hx
  ·exact Z1Y (m1 x hx) (m2 y hy)
  ·rw [m3 x hx];exact m2 y hy
def dirMore (l0 l1:List S145):List S145×Bool:=if dirOk l0 = true then (if dirOk (l1.foldl layS l0) = true then (l1.foldl layS l0,true) else ([],false)) else ([],false)
theorem lay_len (l1:List S145):∀ (l0:List S145),(l1.foldl layS l0).length≤l0.length + l1.length:=by
 induction l1 with
 | nil => simp
 | cons x t ih =>
  intro l0
  have:=ih (layS l0 x)
  have:=laySl l0 x
  rw [List.foldl_cons,List.length_cons]
  omega
def Z13 (key:ByteArray) (x:S145):Int:=Lib.compareBytes x.f0.data.toList key.data.toList
theorem key_lt (key:ByteArray) (x:S145):Z13 key x < 0↔lessK x.f0 key = true:=by unfold Z13 lessK;rw [←ByteArray.toList_eq,←ByteArray.toList_eq];exact (Z8j _ _).1
theorem key_eq (key:ByteArray) (x:S145):Z13 key x = 0↔x.f0.toList = key.toList:=by unfold Z13;rw [←ByteArray.toList_eq,←ByteArray.toList_eq];exact (Z8j _ _).2
theorem Zdj (key:ByteArray) (x:S145) (t:List S145):Z08 (Z13 key) (x::t) = Z08 (Z13 key) t + (if lessK x.f0 key = true then 1 else 0):=by
 unfold Z08
 rw [List.countP_cons]
 congr 1
 by_cases h:lessK x.f0 key = true
 ·rw [if_pos h,if_pos (by rw [decide_eq_true_iff,key_lt];exact h)]
 ·rw [if_neg h,if_neg (by rw [decide_eq_true_iff,key_lt];exact h)]
theorem up_none {key:ByteArray} {x:S145} {t:List S145} (h:Z46 (x::t)) (hx:¬ lessK x.f0 key = true):∀ y∈t,¬ lessK y.f0 key = true:=fun y hy e => hx (Z1Y ((List.pairwise_cons.mp h).1 y hy) e)
theorem ahead_none {key:ByteArray} {t:List S145} (h:∀ y∈t,¬ lessK y.f0 key = true):Z08 (Z13 key) t = 0:=by
 unfold Z08
 rw [List.countP_eq_zero]
 intro y hy
 rw [decide_eq_true_iff,key_lt]
 exact h y hy
theorem Z4A (key:ByteArray):∀ (l:List S145),Z46 l→l.take (Z08 (Z13 key) l) = l.filter (fun x => lessK x.f0 key)∧l.drop (Z08 (Z13 key) l) = l.filter (fun x => !lessK x.f0 key)
 | [],_ => by simp
 | x::t,h => by
  by_cases hx:lessK x.f0 key = true
  ·obtain ⟨h1,h2⟩:=Z4A key t (List.pairwise_cons.mp h).2
   rw [Zdj,if_pos hx,List.take_succ_cons,List.drop_succ_cons,List.filter_cons_of_pos (by exact hx),List.filter_cons_of_neg (by simp [hx]),h1,h2]
   exact ⟨rfl,rfl⟩
  ·have hn:=up_none h hx
   rw [Zdj,if_neg hx,ahead_none hn]
   refine ⟨?_,?_⟩
   ·rw [List.filter_eq_nil_iff.mpr (fun y hy => by rcases List.mem_cons.1 hy with rfl | hy;exact hx;exact hn y hy)];rfl
   ·rw [List.filter_eq_self.mpr (fun y hy => by rcases List.mem_cons.1 hy with rfl | hy;(simp [hx]);(simp [hn y hy]))];rfl
theorem Z4H (key:ByteArray) {l:List S145} (h:Z46 l) :
  (stands (Z13 key) l = true→Z08 (Z13 key) l < l.length∧l.drop (Z08 (Z13 key) l + 1) = l.filter (fun x => lessK key x.f0)) ∧
  (stands (Z13 key) l = false→l.drop (Z08 (Z13 key) l) = l.filter (fun x => lessK key x.f0)):=by
 have hd:=(Z4A key l h).2
 have hf:∀ {t:List S145},(∀ x∈t,lessK key x.f0 = true)→∀ {a:List S145},l = a++t→(∀ x∈a,¬ lessK key x.f0 = true)→l.filter (fun x => lessK key x.f0) = t:=by
  intro t ht a hl ha
  rw [hl,List.filter_append,List.filter_eq_nil_iff.mpr (fun x hx => ha x hx),List.filter_eq_self.mpr (fun x hx => ht x hx),List.nil_append]
 have ht:∀ x∈l.take (Z08 (Z13 key) l),¬ lessK key x.f0 = true:=by
  intro x hx e
  rw [(Z4A key l h).1] at hx
  have:=Z1Y e (List.mem_filter.1 hx).2
  rw [Z50] at this;cases this
 have hup:Z46 (l.drop (Z08 (Z13 key) l)):=List.Pairwise.sublist (List.drop_sublist _ _) h
 have hge:∀ x∈l.drop (Z08 (Z13 key) l),¬ lessK x.f0 key = true:=by
  intro x hx
  rw [hd] at hx
  simpa using (List.mem_filter.1 hx).2
 unfold stands
 rw [←List.head?_drop]
 cases hq:l.drop (Z08 (Z13 key) l) with
 | nil =>
  refine ⟨fun e => by simp at e,fun _ => ?_⟩
  exact (hf (t:=[]) (by simp) (a:=l.take (Z08 (Z13 key) l)) (by rw [←hq,List.take_append_drop]) ht).symm
 | cons m t =>
  rw [hq] at hup hge
  have hlt:Z08 (Z13 key) l < l.length:=by
   rcases Nat.lt_or_ge (Z08 (Z13 key) l) l.length with h1 | h1
   ·exact h1
   ·rw [List.drop_eq_nil_of_le h1] at hq;cases hq
  have hl:l = l.take (Z08 (Z13 key) l)++(m::t):=by rw [←hq,List.take_append_drop]
  have ht1:l.drop (Z08 (Z13 key) l + 1) = t:=by rw [←List.drop_drop,hq];rfl
  simp only [List.head?_cons,decide_eq_true_iff,decide_eq_false_iff_not,key_eq]
  refine ⟨fun e => ⟨hlt,?_⟩,fun e => ?_⟩
  ·rw [ht1]
   refine (hf (t:=t) (fun x hx => ?_) (a:=l.take (Z08 (Z13 key) l)++[m]) (by rw [List.append_assoc];exact hl) (fun x hx => ?_)).symm
   ·have:=(List.pairwise_cons.mp hup).1 x hx
    unfold lessK at this ⊢
    rw [←e];exact this
   ·rcases List.mem_append.1 hx with hx | hx
    ·exact ht x hx
    ·rw [List.mem_singleton] at hx
     unfold lessK
     rw [hx,e,Z50];simp
  ·refine (hf (t:=m::t) (fun x hx => ?_) hl ht).symm
   have hm:lessK key m.f0 = true:=by
    cases hc:lessK key m.f0
    ·exact absurd (ZaK (by simpa [lessK] using hge m List.mem_cons_self) hc) e
    ·rfl
   rcases List.mem_cons.1 hx with rfl | hx
   ·exact hm
   ·exact Z1Y hm ((List.pairwise_cons.mp hup).1 x hx)
theorem Z24 (l:List S145) (hl:l.length≤3000000) (h:Z46 l) (key:ByteArray):∀ (m lo hi:Nat),lo≤hi→hi≤l.length→hi - lo≤m→(∀ t x,t < lo→l[t]? = some x→Z13 key x < 0)→(∀ t x,hi≤t→l[t]? = some x→0≤Z13 key x) →
  Ev (fun k => Z0.l0 k l key (l.length:Int) (lo:Int) (hi:Int)) (((Z08 (Z13 key) l:Nat):Int),stands (Z13 key) l):=by
 have hget:∀ n,n < l.length→l[n]? = some (Za l (n:Int)):=fun n hn => by unfold Za;rw [Int.toNat_natCast,List.getD_eq_getElem?_getD,List.getElem?_eq_getElem hn];rfl
 have hmono:∀ (i j:Nat) (x y:S145),i≤j→l[i]? = some x→l[j]? = some y→lessK x.f0 y.f0 = true∨x = y:=fun i j x y hij hx hy => by
  obtain ⟨i1,i2⟩:=List.getElem?_eq_some_iff.1 hx
  obtain ⟨j1,j2⟩:=List.getElem?_eq_some_iff.1 hy
  rcases Nat.lt_or_eq_of_le hij with hlt | rfl
  ·left
   have:=List.pairwise_iff_getElem.1 h i j i1 j1 hlt
   rwa [i2,j2] at this
  ·right;rw [←i2,←j2]
 have fin:∀ n:Nat,n≤l.length→(∀ t x,t < n→l[t]? = some x→Z13 key x < 0)→(∀ t x,n≤t→l[t]? = some x→0≤Z13 key x)→Ev (fun k => Z0.l0 k l key (l.length:Int) (n:Int) (n:Int)) (((Z08 (Z13 key) l:Nat):Int),stands (Z13 key) l):=fun n hn h1 h2 => by
  have ea:=Z5Q (Z13 key) l n hn h1 h2
  refine Ev.step (fun _ => rfl) ?_
  simp only [Z0.l0]
  refine Ev.neg (by omega) ?_
  unfold stands
  rw [ea]
  by_cases hc:n < l.length
  ·rw [hget n hc]
   exact Ev.pos (by omega) (Ev.pos (by omega) (Ev.pos (by omega) (Ev.call (a:=Z13 key (Za l (n:Int))) rfl (Ev.done rfl))))
  ·rw [List.getElem?_eq_none (by omega)]
   exact Ev.neg (by omega) (Ev.now _)
 intro m
 induction m with
 | zero =>
  intro lo hi h0 h1 h2 h3 h4
  obtain rfl:lo = hi:=by omega
  exact fin lo h1 h3 h4
 | succ m ih =>
  intro lo hi h0 h1 h2 h3 h4
  by_cases hc:lo < hi
  ·have em:wrap64 (((wrap64 ((lo:Int) + (hi:Int))) % 18446744073709551616) / 2) = (((lo + hi) / 2:Nat):Int):=by rw [Z9 (n:=(lo:Int) + (hi:Int)) (by omega) (by omega),Z9 (by omega) (by omega)];omega
   refine Ev.step (fun _ => rfl) ?_
   simp only [Z0.l0,em]
   generalize hn:(lo + hi) / 2 = n
   have hn1:lo≤n:=by omega
   have hn2:n < hi:=by omega
   refine Ev.pos (by omega) (Ev.pos (by omega) (Ev.pos (by omega) (Ev.call (a:=Z13 key (Za l (n:Int))) rfl (Ev.ite (fun hk => ?_) (fun hk => ?_)))))
   ·rw [Z5 (show n≤9223372036854775806 by omega)]
    refine ih (n + 1) hi (by omega) h1 (by omega) (fun t x ht hx => ?_) h4
    rcases hmono t n x _ (by omega) hx (hget n (by omega)) with hm | rfl
    ·rw [key_lt] at hk ⊢;exact Z1H hm hk
    ·exact hk
   ·refine ih lo n (by omega) (by omega) (by omega) h3 (fun t x ht hx => ?_)
    rcases hmono n t _ x ht (hget n (by omega)) hx with hm | rfl
    ·refine Int.not_lt.1 fun hx' => hk ?_
     rw [key_lt] at hx' ⊢;exact Z1H hm hx'
    ·exact Int.not_lt.1 hk
  ·obtain rfl:lo = hi:=by omega
   exact fin lo h1 h3 h4
theorem Z2c (l:List S145) (hl:l.length≤3000000) (h:Z46 l) (key:ByteArray):Ev (fun k => Z0.f k l key) (((Z08 (Z13 key) l:Nat):Int),stands (Z13 key) l):=by
 unfold Z0.f
 exact Z24 l hl h key l.length 0 l.length (by omega) (by omega) (by omega) (fun t x ht => absurd ht (Nat.not_lt_zero _)) (fun t x ht hx => by have:=(List.getElem?_eq_some_iff.1 hx).1;omega)
theorem del_lay {l:List S145} (h:Z46 l) (s:S145) (hd:s.f3 = -1) (hs:stands (Z13 s.f0) l = true):Z0i.f l ((Z08 (Z13 s.f0) l:Nat):Int) (((Z08 (Z13 s.f0) l + 1:Nat)):Int) = some (layS l s):=by
 obtain ⟨h1,-⟩:=Z4H s.f0 h
 have ht:=(Z4A s.f0 l h).1
 unfold Z0i.f delO layS
 rw [if_pos (by omega),if_pos (by omega),if_pos (by have:=(h1 hs).1;omega),Int.toNat_natCast,ht,(h1 hs).2,if_pos hd,List.append_nil]
theorem same_lay {l:List S145} (h:Z46 l) (s:S145) (hd:s.f3 = -1) (hs:stands (Z13 s.f0) l = false):l = layS l s:=by
 obtain ⟨-,h2⟩:=Z4H s.f0 h
 have ht:=(Z4A s.f0 l h).1
 unfold layS
 rw [if_pos hd,List.append_nil,←ht,←h2 hs,List.take_append_drop]
theorem set_lay {l:List S145} (h:Z46 l) (s:S145) (hd:¬ s.f3 = -1) (hs:stands (Z13 s.f0) l = true):l.set (Z08 (Z13 s.f0) l) s = layS l s:=by
 obtain ⟨h1,-⟩:=Z4H s.f0 h
 have ht:=(Z4A s.f0 l h).1
 unfold layS
 rw [if_neg hd,List.set_eq_take_append_cons_drop,if_pos (h1 hs).1,ht,(h1 hs).2];simp
theorem ins_lay {l:List S145} (h:Z46 l) (hl:l.length≤3000000) (s:S145) (hd:¬ s.f3 = -1) (hs:stands (Z13 s.f0) l = false):Z03.f l ((Z08 (Z13 s.f0) l:Nat):Int) [s] = some (layS l s,[s]):=by
 obtain ⟨-,h2⟩:=Z4H s.f0 h
 have ht:=(Z4A s.f0 l h).1
 have ha:=Z6u (Z13 s.f0) l
 unfold Z03.f insO layS
 dsimp only
 rw [if_pos (by omega),if_pos (by omega),if_pos (by omega),Int.toNat_natCast,ht,h2 hs,if_neg hd]
 simp
theorem Z98 (l1:List S145) (hl1:l1.length≤3000000) (r:List S145×Bool):∀ (rest:List S145) (n:Nat) (out:List S145),l1.drop n = rest→Z46 out→out.length + rest.length≤3000000→Ev (fun k => (Z1h.f k (rest.foldl layS out)).bind fun t => if t = true then some (rest.foldl layS out,true) else some ([],false)) r →
  Ev (fun k => Z0s.l0 k out l1 (l1.length:Int) (n:Int)) r:=by
 intro rest
 induction rest with
 | nil =>
  intro n out h _ _ hr
  have:=ZE h
  refine Ev.step (fun _ => rfl) ?_
  simp only [Z0s.l0]
  exact Ev.neg (by omega) hr
 | cons x t ih =>
  intro n out h hu ho hr
  obtain ⟨h1,-,h3⟩:=Zi h
  rw [List.length_cons] at ho
  have hll:=laySl out x
  have ih:=ih (n + 1) (layS out x) h3 (Z90 hu x) (by omega) (by rw [List.foldl_cons] at hr;exact hr)
  have ha:=Z6u (Z13 x.f0) out
  refine Ev.step (fun _ => rfl) ?_
  simp only [Z0s.l0,Z1G h,Z5 (show n≤9223372036854775806 by omega)]
  refine Ev.pos (by omega) (Ev.pos (by omega) (Ev.pos (by omega) (Ev.bind (Z2c out (by omega) hu x.f0) ?_)))
  dsimp only
  rw [Z5 (show Z08 (Z13 x.f0) out≤9223372036854775806 by omega),Int.toNat_natCast]
  cases hs:stands (Z13 x.f0) out
  ·refine Ev.ite (fun hd => Ev.neg (by simp) (Ev.pos hd ?_)) (fun hd => Ev.neg hd (Ev.neg (by simp) ?_))
   ·rw [←same_lay hu x hd hs] at ih;exact ih
   ·exact Ev.call (ins_lay hu (by omega) x hd hs) ih
  ·have h4:=((Z4H x.f0 hu).1 hs).1
   refine Ev.ite (fun hd => Ev.pos rfl (Ev.call (del_lay hu x hd hs) ih)) (fun hd => Ev.neg hd (Ev.pos rfl (Ev.pos (by omega) (Ev.pos (by omega) ?_))))
   rw [←set_lay hu x hd hs] at ih;exact ih
theorem ZbB (l0 l1:List S145) (h0:l0.length + l1.length≤3000000):Ev (fun k => Z0s.f k l0 l1) (dirMore l0 l1):=by
 unfold Z0s.f dirMore
 refine Ev.bind (Z62 l0 (by omega)) ?_
 have:=lay_len l1 l0
 cases hd:dirOk l0
 ·exact Ev.neg (by simp) (Ev.done (by simp))
 ·have hup:Z46 l0:=by unfold dirOk at hd;rw [Bool.and_eq_true] at hd;exact (ZdP hd.2).1
  refine Ev.pos rfl (Ev.pos (by omega) (Z98 l1 (by omega) _ l1 0 ([]++l0) rfl hup (by rw [List.nil_append];omega) ?_))
  rw [List.nil_append]
  refine Ev.bind (Z62 _ (by omega)) ?_
  cases hr:dirOk (l1.foldl layS l0)
  ·exact Ev.neg (by simp) (Ev.done (by simp))
  ·exact Ev.pos rfl (Ev.done (by simp))
def manOk (segs:List Int) (next base bt:Int) (conf:List Int):Bool:=inR segs.length 1 8 && (inR next 0 1000 && (rise 0 (next - 1) none segs && (inR base 0 100000 && (inR bt 0 100000 && Z4o conf))))
theorem Z89 (segs:List Int) (next base bt:Int) (conf:List Int) (hs:segs.length≤9223372036854775806) (hc:conf.length≤9223372036854775806):Ev (fun k => Z2l.f k segs next base bt conf) (manOk segs next base bt conf):=by
 unfold Z2l.f manOk
 refine Ev.call (Z0m _ _ _) ?_
 cases h1:inR segs.length 1 8
 ·exact Ev.neg (by simp) (Ev.done (by simp))
 refine Ev.pos rfl (Ev.call (Z0m _ _ _) ?_)
 cases h2:inR next 0 1000
 ·exact Ev.neg (by simp) (Ev.done (by simp))
 have h2':=Zr.1 h2
 rw [Z9 (by omega) (by omega)]
 refine Ev.pos rfl (Ev.bind (Z6o segs 0 (next - 1) hs) ?_)
 cases h3:rise 0 (next - 1) none segs
 ·exact Ev.neg (by simp) (Ev.done (by simp))
 refine Ev.pos rfl (Ev.call (Z0m _ _ _) ?_)
 cases h4:inR base 0 100000
 ·exact Ev.neg (by simp) (Ev.done (by simp))
 refine Ev.pos rfl (Ev.call (Z0m _ _ _) ?_)
 cases h5:inR bt 0 100000
 ·exact Ev.neg (by simp) (Ev.done (by simp))
 exact Ev.pos rfl (Ev.bind (ZcA conf hc) (Ev.done (by simp)))
def Z1V (segs:List Int) (next base bt:Int) (conf:List Int):List Int:=(segs.length:Int)::(segs++(next::base::bt::(conf.length:Int)::conf))
def Z0R (segs:List Int) (next base bt:Int) (conf:List Int):ByteArray×Bool :=
 if manOk segs next base bt conf = true then sealT (strOfNums ((Z1V segs next base bt conf).flatMap fun n => varL n.toNat)) else (⟨#[]⟩,false)
theorem ZY {segs:List Int} {next base bt:Int} {conf:List Int} (h:manOk segs next base bt conf = true) :
  (1≤segs.length∧segs.length≤8)∧(0≤next∧next≤1000)∧(0≤base∧base≤100000)∧(0≤bt∧bt≤100000)∧(1≤conf.length∧conf.length≤4)∧(∀ x∈segs,0≤x∧x≤999)∧(∀ x∈conf,1≤x∧x≤4):=by
 simp only [manOk,Bool.and_eq_true] at h
 obtain ⟨h1,h2,h3,h4,h5,h6⟩:=h
 have h1:=Zr.1 h1;have h2:=Zr.1 h2;have h4:=Zr.1 h4;have h5:=Zr.1 h5
 refine ⟨by omega,h2,h4,h5,confOk_len h6,?_,confOk_mem h6⟩
 have rm:∀ (l:List Int) (p:Option Int),rise 0 (next - 1) p l = true→∀ x∈l,0≤x∧x≤999:=by
  intro l
  induction l with
  | nil => intro p _ x hx;cases hx
  | cons y t ih =>
   intro p hp x hx
   have hy:inR y 0 (next - 1) = true∧rise 0 (next - 1) (some y) t = true:=by
    cases p <;> simp only [rise,Bool.and_eq_true] at hp
    ·exact hp
    ·exact ⟨hp.1,hp.2.2⟩
   rcases List.mem_cons.1 hx with rfl | hx
   ·have:=Zr.1 hy.1;omega
   ·exact ih _ hy.2 x hx
 exact rm segs none h3
theorem Z65 (segs:List Int) (next base bt:Int) (conf:List Int) (hc:conf.length≤1000):∀ (rest:List Int) (n:Nat) (a:List Int),conf.drop n = rest→(∀ x∈rest,0≤x∧x≤1000000)→a.length + 5 * rest.length≤1000000 →
  Ev (fun k => Zh.l1 k (strOfNums a) (n:Int) segs next base bt conf) (sealT (strOfNums (a++rest.flatMap fun n => varL n.toNat))):=by
 intro rest
 induction rest with
 | nil =>
  intro n a h _ ha
  have:=ZE h
  refine Ev.step (fun _ => rfl) ?_
  simp only [Zh.l1]
  exact Ev.neg (by omega) (Ev.bind (Zcp _ (by rw [strOfNums_size];omega)) (Ev.done (by simp)))
 | cons x t ih =>
  intro n a h hm ha
  obtain ⟨h1,-,h3⟩:=Zi h
  have hx:=hm x List.mem_cons_self
  have hv:=Z2d (show x.toNat≤34359738367 by omega)
  rw [List.length_cons] at ha
  refine Ev.step (fun _ => rfl) ?_
  simp only [Zh.l1,Z3c h,Z5 (show n≤9223372036854775806 by omega)]
  refine Ev.pos (by omega) (Ev.pos (by omega) (Ev.bind (Z2H x (by omega) (by omega)) ?_))
  simp only [Zx,←Z22,strOfNums_size]
  exact Ev.pos (by omega) (Ev.eq (ih (n + 1) (a++varL x.toNat) h3 (fun y hy => hm y (List.mem_cons_of_mem _ hy)) (by rw [List.length_append];omega)) (by simp))
theorem Z5W (segs:List Int) (next base bt:Int) (conf:List Int) (hs:segs.length≤1000) (hn:0≤next∧next≤1000000) (hb:0≤base∧base≤1000000) (ht:0≤bt∧bt≤1000000) (hc:conf.length≤1000) (hm1:∀ x∈conf,0≤x∧x≤1000000):∀ (rest:List Int) (n:Nat) (a:List Int),segs.drop n = rest→(∀ x∈rest,0≤x∧x≤1000000)→a.length + 5 * rest.length≤100000 →
  Ev (fun k => Zh.l0 k (strOfNums a) (n:Int) segs next base bt conf) (sealT (strOfNums (a++(rest++(next::base::bt::(conf.length:Int)::conf)).flatMap fun n => varL n.toNat))):=by
 intro rest
 induction rest with
 | nil =>
  intro n a h _ ha
  have:=ZE h
  have v1:=Z2d (show next.toNat≤34359738367 by omega)
  have v2:=Z2d (show base.toNat≤34359738367 by omega)
  have v3:=Z2d (show bt.toNat≤34359738367 by omega)
  have v4:=Z2d (show conf.length≤34359738367 by omega)
  rw [List.length_nil] at ha
  refine Ev.step (fun _ => rfl) ?_
  simp only [Zh.l0]
  refine Ev.neg (by omega) (Ev.bind (Z2H next (by omega) (by omega)) ?_)
  simp only [Zx,←Z22,strOfNums_size]
  refine Ev.pos (by omega) (Ev.bind (Z2H base (by omega) (by omega)) ?_)
  simp only [Zx,←Z22,strOfNums_size]
  refine Ev.pos (by rw [List.length_append];omega) (Ev.bind (Z2H bt (by omega) (by omega)) ?_)
  simp only [Zx,←Z22,strOfNums_size]
  refine Ev.pos (by rw [List.length_append,List.length_append];omega) (Ev.bind (Z1C conf.length (by omega)) ?_)
  simp only [Zx,←Z22,strOfNums_size]
  refine Ev.pos (by rw [List.length_append,List.length_append,List.length_append];omega) (Ev.eq (Z65 segs next base bt conf hc conf 0 _ rfl hm1 (by simp only [List.length_append];omega)) ?_)
  simp
 | cons x t ih =>
  intro n a h hm ha
  obtain ⟨h1,-,h3⟩:=Zi h
  have hx:=hm x List.mem_cons_self
  have hv:=Z2d (show x.toNat≤34359738367 by omega)
  rw [List.length_cons] at ha
  refine Ev.step (fun _ => rfl) ?_
  simp only [Zh.l0,Z3c h,Z5 (show n≤9223372036854775806 by omega)]
  refine Ev.pos (by omega) (Ev.pos (by omega) (Ev.bind (Z2H x (by omega) (by omega)) ?_))
  simp only [Zx,←Z22,strOfNums_size]
  exact Ev.pos (by omega) (Ev.eq (ih (n + 1) (a++varL x.toNat) h3 (fun y hy => hm y (List.mem_cons_of_mem _ hy)) (by rw [List.length_append];omega)) (by simp))
theorem Z0K (segs:List Int) (next base bt:Int) (conf:List Int) (hs:segs.length≤9223372036854775806) (hc:conf.length≤9223372036854775806):Ev (fun k => Zh.f k segs next base bt conf) (Z0R segs next base bt conf):=by
 unfold Zh.f Z0R
 refine Ev.bind (Z89 segs next base bt conf hs hc) ?_
 cases h:manOk segs next base bt conf
 ·exact Ev.neg (by simp) (Ev.done (by simp))
 ·obtain ⟨b1,b2,b3,b4,b5,b6,b7⟩:=ZY h
  have v0:=Z2d (show segs.length≤34359738367 by omega)
  refine Ev.pos rfl (Ev.bind (Z1C segs.length (by omega)) ?_)
  exact Ev.eq (Z5W segs next base bt conf (by omega) (by omega) (by omega) (by omega) (by omega) (fun x hx => by have:=b7 x hx;omega) segs 0 _ rfl (fun x hx => by have:=b6 x hx;omega) (by omega)) (by simp [Z1V])
theorem Z9E:Ev (fun k => Z0C.f k 0) (⟨#[48]⟩:ByteArray):=Ev.pos rfl (Ev.now _)
theorem Z8b (n:Nat):Z2h.f (Int.tmod (n:Int) 10) = some (((48 + n % 10:Nat)):Int):=by
 unfold Z2h.f
 rw [if_pos (by rw [Int.tmod_eq_emod_of_nonneg (by omega)];omega),tmod10]
theorem Z8A (n:Nat) (h:n < 256):strOfNums [(n:Int)] = ⟨#[UInt8.ofNat n]⟩:=by
 simp [strOfNums]
theorem Z6V {n:Nat} (h:¬ n < 10):Lib.decDigits n = Lib.decDigits (n / 10)++[UInt8.ofNat (48 + n % 10)]:=by
 rw [Lib.decDigits,dif_neg h]
theorem Z4O {n:Nat} (h:n < 10):Lib.decDigits n = [UInt8.ofNat (48 + n)]:=by
 rw [Lib.decDigits,dif_pos h]
def digT (n:Nat):ByteArray:=⟨(Lib.decDigits n).toArray⟩
theorem digT_big {n:Nat} (h:¬ n < 10) (a:ByteArray):digT n++a = digT (n / 10)++(strOfNums [((48 + n % 10:Nat):Int)]++a):=by
 rw [Z8A _ (by omega),digT,Z6V h,digT,←ByteArray.append_assoc]
 congr 1
theorem ZcX {n:Nat} (h:n < 10):digT n = strOfNums [((48 + n % 10:Nat):Int)]:=by
 rw [Z8A _ (by omega),digT,Z4O h,Nat.mod_eq_of_lt h]
theorem Z9e:∀ (n:Nat) (a:ByteArray),0 < n→a.size + n≤4611686018427387904→Ev (fun k => Z0C.l0 k (n:Int) false a) (digT n++a):=by
 intro n
 induction n using Nat.strongRecOn with
 | ind n ih =>
  intro a h0 h
  refine Ev.step (fun _ => rfl) ?_
  have ht:¬ Int.tmod (n:Int) 10 < 0:=by rw [Int.tmod_eq_emod_of_nonneg (by omega)];omega
  simp only [Z0C.l0,tdiv10 n (by omega)]
  refine Ev.neg (by omega) (Ev.neg ht (Ev.call (Z8b n) (Ev.call rfl ?_)))
  simp only [strOfNums_size,List.length_singleton]
  refine Ev.pos (by omega) ?_
  by_cases hc:n < 10
  ·rw [show n / 10 = 0 by omega,ZcX hc]
   refine Ev.step (fun _ => rfl) ?_
   simp only [Z0C.l0]
   exact Ev.pos rfl (Ev.neg (by simp) (Ev.now _))
  ·rw [digT_big hc]
   exact ih (n / 10) (by omega) _ (by omega) (by rw [size_append,strOfNums_size,List.length_singleton];omega)
theorem Z4P (n:Nat) (h:n≤4611686018427387904):Ev (fun k => Z0C.f k (n:Int)) (digT n):=by
 by_cases h0:n = 0
 ·subst h0
  exact Ev.eq Z9E (by rw [digT,Z4O (by omega)];rfl)
 ·unfold Z0C.f
  rw [decide_eq_false (show ¬ ((n:Nat):Int) < 0 by omega)]
  exact Ev.neg (by omega) (Ev.eq (Z9e n ⟨#[]⟩ (by omega) (by show 0 + n≤_;omega)) (by show digT n++ByteArray.empty = _;simp))
theorem digits_len (n:Nat):(Lib.decDigits n).length≤n + 1:=by
 induction n using Nat.strongRecOn with
 | ind n ih =>
  by_cases hc:n < 10
  ·rw [Z4O hc];simp
  ·rw [Z6V hc,List.length_append,List.length_singleton]
   have:=ih (n / 10) (by omega)
   omega
theorem digT_size (n:Nat):(digT n).size≤n + 1:=by
 show (Lib.decDigits n).toArray.size≤n + 1
 rw [List.size_toArray];exact digits_len n
theorem itoa_nat (n:Nat):(⟨(Lib.itoa (n:Int)).toArray⟩:ByteArray) = digT n:=by
 rw [Lib.itoa,if_neg (by omega),Int.toNat_natCast];rfl
def segT (n:Int):ByteArray:=if inR n 0 999 = true then (⟨#[103]⟩:ByteArray)++digT n.toNat else ⟨#[]⟩
theorem Z19 (n:Int):Ev (fun k => Z0f.f k n) (segT n):=by
 unfold Z0f.f segT
 refine Ev.call (Z0m _ _ _) ?_
 cases hb:inR n 0 999
 ·exact Ev.neg (by simp) (Ev.done (by simp))
 ·have:=Zr.1 hb
  obtain ⟨m,rfl⟩:=Int.eq_ofNat_of_zero_le this.1
  have hs:=digT_size m
  exact Ev.pos rfl (Ev.bind (Z4P m (by omega)) (Ev.pos (by omega) (Ev.done (by simp))))
def Z3y (l:List Int):List S122×Bool:=if (Z0R [0] 1 0 0 l).2 = true then ([⟨segT 0,⟨#[]⟩⟩,⟨⟨#[109]⟩,(Z0R [0] 1 0 0 l).1⟩],true) else ([],false)
theorem Z7N (l:List Int) (hl:l.length≤1048576):Ev (fun k => Z25.f k l) (Z3y l):=by
 unfold Z25.f Z3y
 refine Ev.bind (Z0K [0] 1 0 0 l (by simp) (by omega)) ?_
 exact Ev.ite (fun h => Ev.bind (Z19 0) (Ev.done (by rw [if_pos h]))) (fun h => Ev.done (by rw [if_neg h]))
def irise (next:Int):Option Int→List Int→Bool
 | _,[] => true
 | none,x::t => inR x 0 999 && (decide (x < next) && irise next (some x) t)
 | some q,x::t => inR x 0 999 && (decide (x < next) && (decide (q < x) && irise next (some x) t))
theorem Z7d (xs:List Int) (hx:xs.length≤9223372036854775806) (next base bt:Int) (conf:List Int) (hc:conf.length≤9223372036854775806):∀ (rest:List Int) (n:Nat),xs.drop n = rest →
  Ev (fun k => Z0h.l0 k xs (xs.length:Int) (n:Int) xs next base bt conf) (irise next (Z4e xs n) rest && (inR xs.length 1 8 && (decide (next≤1000) && (inR base 0 100000 && (inR bt 0 100000 && Z4o conf))))):=by
 intro rest
 induction rest with
 | nil =>
  intro n h
  have:=ZE h
  have hi:irise next (Z4e xs n) [] = true:=by cases n <;> rfl
  rw [hi,Bool.true_and]
  refine Ev.step (fun _ => rfl) ?_
  simp only [Z0h.l0]
  refine Ev.neg (by omega) (Ev.call (Z0j _ _ _) ?_)
  cases h1:inR xs.length 1 8
  ·exact Ev.neg (by simp) (Ev.done (by simp))
  refine Ev.pos rfl (Ev.ite (fun h2 => ?_) (fun h2 => Ev.done (by simp [h2])))
  rw [decide_eq_true h2]
  refine Ev.call (Z0j _ _ _) ?_
  cases h4:inR base 0 100000
  ·exact Ev.neg (by simp) (Ev.done (by simp))
  refine Ev.pos rfl (Ev.call (Z0j _ _ _) ?_)
  cases h5:inR bt 0 100000
  ·exact Ev.neg (by simp) (Ev.done (by simp))
  exact Ev.pos rfl (Ev.bind (ZcE conf hc) (Ev.done (by simp)))
 | cons x t ih =>
  intro n h
  obtain ⟨h1,-,h3⟩:=Zi h
  have ih:=ih (n + 1) h3
  rw [Z7E h] at ih
  refine Ev.step (fun _ => rfl) ?_
  simp only [Z0h.l0,Z3c h,Z5 (show n≤9223372036854775806 by omega)]
  refine Ev.pos (by omega) (Ev.pos (by omega) (Ev.pos (by omega) (Ev.call (Z0j _ _ _) ?_)))
  cases hb:inR x 0 999
  ·exact Ev.neg (by simp) (Ev.done (by cases n <;> simp [irise,Z4e,hb]))
  refine Ev.pos rfl (Ev.ite (fun hc => Ev.done ?_) (fun hn => ?_))
  ·have:decide (x < next) = false:=decide_eq_false (by omega)
   cases n <;> simp [irise,Z4e,this]
  have hn:decide (x < next) = true:=decide_eq_true (by omega)
  cases n with
  | zero => exact Ev.neg (by omega) (Ev.eq ih (by simp [irise,Z4e,hb,hn]))
  | succ m =>
   refine Ev.pos (by omega) ?_
   simp only [Z2J (show m≤9223372036854775806 by omega)]
   refine Ev.pos (by omega) (Ev.pos (by omega) (Ev.ite (fun hc => Ev.done ?_) (fun hc => Ev.eq ih ?_)))
   ·simp only [Z4e,irise,hb,hn,decide_eq_false (show ¬ rd xs (m:Int) < x by omega)];simp
   ·simp only [Z4e,irise,hb,hn,decide_eq_true (show rd xs (m:Int) < x by omega)];simp
theorem irise_rise (next:Int) (h:next≤1000):∀ (l:List Int) (p:Option Int),irise next p l = rise 0 (next - 1) p l:=by
 intro l
 induction l with
 | nil => intro p;cases p <;> rfl
 | cons x t ih =>
  intro p
  have e:(inR x 0 999 && decide (x < next)) = inR x 0 (next - 1):=by
   rw [Bool.eq_iff_iff,Bool.and_eq_true,Zr,Zr,decide_eq_true_iff];omega
  cases p with
  | none => rw [irise,rise,←ih,←e,Bool.and_assoc]
  | some q => rw [irise,rise,←ih,←e,Bool.and_assoc]
theorem Z4j (segs:List Int) (next base bt:Int) (conf:List Int) (hs:segs.length≤9223372036854775806) (hc:conf.length≤9223372036854775806):Ev (fun k => Z0h.f k segs next base bt conf) (manOk segs next base bt conf):=by
 refine Ev.eq (Z7d segs hs next base bt conf hc segs 0 rfl) ?_
 unfold manOk
 show (irise next none segs && _) = _
 by_cases h:next≤1000
 ·rw [irise_rise next h,decide_eq_true h]
  cases segs with
  | nil => simp [inR]
  | cons x t =>
   by_cases h0:0≤next
   ·rw [show inR next 0 1000 = true from Zr.2 ⟨h0,h⟩]
    simp only [Bool.true_and]
    cases rise 0 (next - 1) none (x::t) <;> simp
   ·have:rise 0 (next - 1) none (x::t) = false:=by
     rw [rise,show inR x 0 (next - 1) = false from Zbz.2 (by omega),Bool.false_and]
    rw [this];simp
 ·rw [decide_eq_false h,show inR next 0 1000 = false from Zbz.2 (by omega)]
  simp
theorem concat_man (segs:List Int) (next base bt:Int) (conf:List Int) (h1:segs.length≤1000) (h2:conf.length≤1000):Z16.f [[(segs.length:Int)],segs,[next,base,bt,(conf.length:Int)],conf] = some (Z1V segs next base bt conf):=by
 have e:[[(segs.length:Int)],segs,[next,base,bt,(conf.length:Int)],conf].flatten = Z1V segs next base bt conf:=by simp [Z1V]
 have hl:(Z1V segs next base bt conf).length≤3000:=by simp only [Z1V,List.length_cons,List.length_append];omega
 unfold Z16.f
 rw [e,if_pos (by simp),if_pos (by simp),if_pos (by omega)]
theorem Z7c (segs:List Int) (next base bt:Int) (conf:List Int) (hs:segs.length≤9223372036854775806) (hc:conf.length≤9223372036854775806):Ev (fun k => Z1N.f k segs next base bt conf) (Z0R segs next base bt conf):=by
 unfold Z1N.f Z0R
 refine Ev.bind (Z4j segs next base bt conf hs hc) ?_
 cases h:manOk segs next base bt conf
 ·exact Ev.neg (by simp) (Ev.done (by simp))
 ·obtain ⟨b1,b2,b3,b4,b5,b6,b7⟩:=ZY h
  refine Ev.pos rfl (Ev.call (concat_man segs next base bt conf (by omega) (by omega)) (Ev.bind (Z9R (Z1V segs next base bt conf) (by simp only [Z1V,List.length_cons,List.length_append];omega)) ?_))
  have ha:(Z1V segs next base bt conf).all (fun n => inR n 0 1000000000) = true:=by
   rw [List.all_eq_true]
   intro x hx
   rw [Zr]
   simp only [Z1V,List.mem_cons,List.mem_append] at hx
   rcases hx with rfl | hx | rfl | rfl | rfl | rfl | hx
   ·omega
   ·have:=b6 x hx;omega
   ·omega
   ·omega
   ·omega
   ·omega
   ·have:=b7 x hx;omega
  have hl:∀ l:List Int,(∀ x∈l,0≤x∧x≤34359738367)→(l.flatMap fun n => varL n.toNat).length≤5 * l.length:=by
   intro l
   induction l with
   | nil => intro _;simp
   | cons x t ih =>
    intro hm
    have:=ih (fun y hy => hm y (List.mem_cons_of_mem _ hy))
    have hx:=hm x List.mem_cons_self
    have:=Z2d (show x.toNat≤34359738367 by omega)
    rw [List.flatMap_cons,List.length_append,List.length_cons]
    omega
  have hl:=hl (Z1V segs next base bt conf) (fun x hx => by have:=Zr.1 (List.all_eq_true.1 ha x hx);omega)
  have hn:(Z1V segs next base bt conf).length = segs.length + conf.length + 5:=by simp only [Z1V,List.length_cons,List.length_append];omega
  rw [varsOf,if_pos ha]
  exact Ev.bind (Z7j _ (by rw [strOfNums_size];omega)) (Ev.done (by simp))
theorem Z0T (n:Int):Z0l.f n = some (segT n):=by
 unfold Z0l.f segT
 rw [Z0j,Option.bind_some]
 cases hb:inR n 0 999
 ·rw [if_neg (by simp),if_neg (by simp)]
 ·have:=Zr.1 hb
  obtain ⟨m,rfl⟩:=Int.eq_ofNat_of_zero_le this.1
  have hs:=digT_size m
  rw [if_pos rfl,if_pos rfl]
  unfold impl_Decimal.f
  rw [if_pos (by omega),if_pos (by omega),Option.bind_some,itoa_nat,if_pos (by omega),Int.toNat_natCast]
def Z5t:Option ByteArray→ByteArray→Bool
 | none,_ => true
 | some q,s => Op.bytesLess q.toList s.toList
def Z2o:Option ByteArray→List S122→Bool
 | _,[] => true
 | p,x::t => inR x.f0.size 1 12 && (decide (x.f1.size≤20000) && (Z5t p x.f0 && Z2o (some x.f0) t))
def ZT (l:List S122):Bool:=decide (l.length≤30) && Z2o none l
def Z6f (xs:List S122):Nat→Option ByteArray
 | 0 => none
 | n + 1 => some (Z0k xs (n:Int)).f0
theorem Zax (l:List S122) (hl:l.length≤1048576):∀ (rest:List S122) (n:Nat),l.drop n = rest→Ev (fun k => ZO.l0 k (n:Int) l) (Z2o (Z6f l n) rest):=by
 intro rest
 induction rest with
 | nil =>
  intro n h
  have:=ZE h
  refine Ev.step (fun _ => rfl) ?_
  simp only [ZO.l0]
  exact Ev.neg (by omega) (Ev.done (by simp [Z2o]))
 | cons x t ih =>
  intro n h
  obtain ⟨h1,-,h3⟩:=Zi h
  have hk:Z6f l (n + 1) = some x.f0:=by rw [Z6f,Z2p h]
  have ih:=ih (n + 1) h3
  rw [hk] at ih
  refine Ev.step (fun _ => rfl) ?_
  simp only [ZO.l0,Z2p h,Z5 (show n≤9223372036854775806 by omega)]
  refine Ev.pos (by omega) (Ev.pos (by omega) (Ev.call (Z0m _ _ _) ?_))
  rw [Z2o]
  cases h0:inR x.f0.size 1 12
  ·exact Ev.neg (by simp) (Ev.done (by simp))
  refine Ev.pos rfl (Ev.ite (fun hc => Ev.done ?_) (fun hc => ?_))
  ·rw [decide_eq_false (show ¬ x.f1.size≤20000 by omega)];simp
  rw [decide_eq_true (show x.f1.size≤20000 by omega)]
  cases n with
  | zero => exact Ev.neg (by omega) (Ev.eq ih (by simp [Z6f,Z5t]))
  | succ m =>
   simp only [Z2J (show m≤9223372036854775806 by omega)]
   refine Ev.pos (by omega) (Ev.pos (by omega) (Ev.pos (by omega) (Ev.ite (fun hc => Ev.eq ih ?_) (fun hc => Ev.done ?_))))
   ·simp only [Z6f,Z5t,hc];simp
   ·simp only [Z6f,Z5t,Bool.eq_false_iff.2 hc];simp
theorem Z2C (l:List S122) (hl:l.length≤1048576):Ev (fun k => ZO.f k l) (ZT l):=by
 unfold ZO.f ZT
 refine Ev.ite (fun hc => Ev.done ?_) (fun hc => Ev.eq (Zax l hl l 0 rfl) ?_)
 ·rw [decide_eq_false (show ¬ l.length≤30 by omega)];rfl
 ·rw [decide_eq_true (show l.length≤30 by omega)];rfl
theorem Zaq (l:List S122) (hl:l.length≤1048576):∀ (rest:List S122) (n:Nat),l.drop n = rest→Ev (fun k => Z02.l0 k l (l.length:Int) (n:Int) l) (Z2o (Z6f l n) rest && decide (l.length≤30)):=by
 intro rest
 induction rest with
 | nil =>
  intro n h
  have:=ZE h
  refine Ev.step (fun _ => rfl) ?_
  simp only [Z02.l0]
  refine Ev.neg (by omega) (Ev.done ?_)
  rw [Z2o,Bool.true_and,decide_eq_decide];omega
 | cons x t ih =>
  intro n h
  obtain ⟨h1,-,h3⟩:=Zi h
  have hk:Z6f l (n + 1) = some x.f0:=by rw [Z6f,Z2p h]
  have ih:=ih (n + 1) h3
  rw [hk] at ih
  refine Ev.step (fun _ => rfl) ?_
  simp only [Z02.l0,Z2p h,Z5 (show n≤9223372036854775806 by omega)]
  refine Ev.pos (by omega) (Ev.pos (by omega) (Ev.pos (by omega) (Ev.call (Z0j _ _ _) ?_)))
  rw [Z2o]
  cases h0:inR x.f0.size 1 12
  ·exact Ev.neg (by simp) (Ev.done (by simp))
  refine Ev.pos rfl (Ev.ite (fun hc => Ev.done ?_) (fun hc => ?_))
  ·rw [decide_eq_false (show ¬ x.f1.size≤20000 by omega)];simp
  rw [decide_eq_true (show x.f1.size≤20000 by omega)]
  cases n with
  | zero => exact Ev.neg (by omega) (Ev.eq ih (by simp [Z6f,Z5t]))
  | succ m =>
   simp only [Z2J (show m≤9223372036854775806 by omega)]
   refine Ev.pos (by omega) (Ev.pos (by omega) (Ev.pos (by omega) (Ev.ite (fun hc => Ev.eq ih ?_) (fun hc => Ev.done ?_))))
   ·simp only [Z6f,Z5t,hc];simp
   ·simp only [Z6f,Z5t,Bool.eq_false_iff.2 hc];simp
theorem Z3i (l:List S122) (hl:l.length≤1048576):Ev (fun k => Z02.f k l) (ZT l) :=
 Ev.eq (Zaq l hl l 0 rfl) (by rw [Bool.and_comm];rfl)
def Z8 (key:ByteArray) (x:S122):Int:=Lib.compareBytes x.f0.data.toList key.data.toList
theorem Z7G (key:ByteArray) (x:S122):Z8 key x < 0↔lessK x.f0 key = true:=by unfold Z8 lessK;rw [←ByteArray.toList_eq,←ByteArray.toList_eq];exact (Z8j _ _).1
theorem name_eq (key:ByteArray) (x:S122):Z8 key x = 0↔x.f0.toList = key.toList:=by unfold Z8;rw [←ByteArray.toList_eq,←ByteArray.toList_eq];exact (Z8j _ _).2
def Z1S (l:List S122):Prop:=l.Pairwise fun x y => lessK x.f0 y.f0 = true
theorem Zd8:∀ (l:List S122) (p:Option ByteArray),Z2o p l = true→Z1S l∧∀ q,p = some q→∀ x∈l,lessK q x.f0 = true
 | [],_,_ => ⟨List.Pairwise.nil,fun _ _ x hx => by cases hx⟩
 | x::t,p,h => by
  simp only [Z2o,Bool.and_eq_true] at h
  obtain ⟨-,-,h3,h4⟩:=h
  obtain ⟨i1,i2⟩:=Zd8 t _ h4
  have i2:=i2 _ rfl
  refine ⟨List.Pairwise.cons i2 i1,?_⟩
  rintro q rfl y hy
  rcases List.mem_cons.1 hy with rfl | hy
  ·exact h3
  ·exact Z1Y h3 (i2 y hy)
theorem Z0z {l:List S122} (h:ZT l = true):l.length≤30∧Z1S l:=by
 simp only [ZT,Bool.and_eq_true,decide_eq_true_iff] at h
 exact ⟨h.1,(Zd8 l none h.2).1⟩
theorem ahead_at {l:List S122} (h:Z1S l) {i:Nat} {x:S122} {key:ByteArray} (hi:l[i]? = some x) (he:x.f0.toList = key.toList):Z08 (Z8 key) l = i∧stands (Z8 key) l = true:=by
 obtain ⟨h1,h2⟩:=List.getElem?_eq_some_iff.1 hi
 have ea:Z08 (Z8 key) l = i:=by
  refine Z5Q _ l i (by omega) (fun t y ht hy => ?_) (fun t y ht hy => ?_)
  ·obtain ⟨k1,k2⟩:=List.getElem?_eq_some_iff.1 hy
   rw [Z7G]
   have:=List.pairwise_iff_getElem.1 h t i k1 h1 ht
   rw [h2,k2] at this
   unfold lessK at this ⊢
   rw [←he];exact this
  ·obtain ⟨k1,k2⟩:=List.getElem?_eq_some_iff.1 hy
   refine Int.not_lt.1 fun hn => ?_
   rw [Z7G] at hn
   rcases Nat.lt_or_eq_of_le ht with ht | rfl
   ·have:=List.pairwise_iff_getElem.1 h i t h1 k1 ht
    rw [h2,k2] at this
    unfold lessK at this hn
    rw [he] at this
    have:=Z1Y this hn
    rw [Z50] at this;cases this
   ·have e:x = y:=by rw [←h2,←k2]
    subst e
    unfold lessK at hn
    rw [he,Z50] at hn;cases hn
 refine ⟨ea,?_⟩
 unfold stands
 rw [ea,hi]
 exact decide_eq_true ((name_eq key x).2 he)
theorem Z4I {l:List S122} {key:ByteArray} (h:stands (Z8 key) l = true):∃ x,l[Z08 (Z8 key) l]? = some x∧x.f0.toList = key.toList:=by
 unfold stands at h
 cases hx:l[Z08 (Z8 key) l]? with
 | none => rw [hx] at h;cases h
 | some x => rw [hx] at h;exact ⟨x,rfl,(name_eq key x).1 (of_decide_eq_true h)⟩
theorem Zb6 (key:ByteArray) (l:List S122) (hl:l.length≤1048576) (r:Int) (hr1:∀ i x,l[i]? = some x→x.f0.toList = key.toList→r = (i:Nat)) (hr2:(∀ x∈l,x.f0.toList≠key.toList)→r = -1) :
  ∀ (rest:List S122) (n:Nat),l.drop n = rest→(∀ t x,t < n→l[t]? = some x→x.f0.toList≠key.toList)→Ev (fun k => Z0P.l0 k key (n:Int) l) r:=by
 intro rest
 induction rest with
 | nil =>
  intro n h hb
  have:=ZE h
  refine Ev.step (fun _ => rfl) ?_
  simp only [Z0P.l0]
  refine Ev.neg (by omega) (Ev.done (hr2 fun x hx => ?_).symm)
  obtain ⟨i,hi,rfl⟩:=List.getElem_of_mem hx
  exact hb i _ (by omega) (List.getElem?_eq_getElem hi)
 | cons x t ih =>
  intro n h hb
  obtain ⟨h1,-,h3⟩:=Zi h
  have hx:l[n]? = some x:=by rw [Z9B h1,Z2p h]
  refine Ev.step (fun _ => rfl) ?_
  simp only [Z0P.l0,Z2p h,Z5 (show n≤9223372036854775806 by omega)]
  refine Ev.pos (by omega) (Ev.pos (by omega) (Ev.ite (fun hc => Ev.done (hr1 n x hx hc).symm) (fun hc => ih (n + 1) h3 fun t y ht hy => ?_)))
  rcases Nat.lt_or_eq_of_le (Nat.le_of_lt_succ ht) with ht | rfl
  ·exact hb t y ht hy
  ·rw [hx] at hy;injection hy with hy;subst hy;exact hc
def Z6O (key:ByteArray) (l:List S122):Int:=if stands (Z8 key) l = true then ((Z08 (Z8 key) l:Nat):Int) else -1
theorem Z4i (l:List S122) (hl:l.length≤1048576) (h:Z1S l) (key:ByteArray):Ev (fun k => Z0P.f k l key) (Z6O key l):=by
 refine Zb6 key l hl _ (fun i x hi he => ?_) (fun hn => ?_) l 0 rfl (fun t x ht => absurd ht (Nat.not_lt_zero _))
 ·obtain ⟨e1,e2⟩:=ahead_at h hi he
  rw [Z6O,if_pos e2,e1]
 ·rw [Z6O,if_neg]
  intro hs
  obtain ⟨x,hx,he⟩:=Z4I hs
  exact hn x (List.mem_of_getElem? hx) he
def Zn (key:ByteArray) (l:List S122):ByteArray:=if stands (Z8 key) l = true then (Z0k l ((Z08 (Z8 key) l:Nat):Int)).f1 else ⟨#[]⟩
theorem Z3F (l:List S122) (hl:l.length≤1048576) (h:Z1S l) (key:ByteArray):Ev (fun k => Z1c.f k l key) (Zn key l):=by
 unfold Z1c.f Zn
 refine Ev.bind (Z4i l hl h key) ?_
 unfold Z6O
 cases hs:stands (Z8 key) l
 ·exact Ev.pos (by simp) (Ev.done (by simp))
 ·obtain ⟨x,hx,-⟩:=Z4I hs
  obtain ⟨h1,-⟩:=List.getElem?_eq_some_iff.1 hx
  rw [if_pos rfl,if_pos rfl]
  exact Ev.neg (by omega) (Ev.pos (by omega) (Ev.pos (by omega) (Ev.now _)))
theorem Z21 (l:List S122) (hl:l.length≤1048576) (h:Z1S l) (key:ByteArray):∀ (m lo hi:Nat),lo≤hi→hi≤l.length→hi - lo≤m→(∀ t x,t < lo→l[t]? = some x→Z8 key x < 0)→(∀ t x,hi≤t→l[t]? = some x→0≤Z8 key x) →
  Ev (fun k => Z1.l0 k l key (l.length:Int) (lo:Int) (hi:Int)) (((Z08 (Z8 key) l:Nat):Int),stands (Z8 key) l):=by
 have hget:∀ n,n < l.length→l[n]? = some (Z0k l (n:Int)):=fun n hn => by unfold Z0k;rw [Int.toNat_natCast,List.getD_eq_getElem?_getD,List.getElem?_eq_getElem hn];rfl
 have hmono:∀ (i j:Nat) (x y:S122),i≤j→l[i]? = some x→l[j]? = some y→lessK x.f0 y.f0 = true∨x = y:=fun i j x y hij hx hy => by
  obtain ⟨i1,i2⟩:=List.getElem?_eq_some_iff.1 hx
  obtain ⟨j1,j2⟩:=List.getElem?_eq_some_iff.1 hy
  rcases Nat.lt_or_eq_of_le hij with hlt | rfl
  ·left
   have:=List.pairwise_iff_getElem.1 h i j i1 j1 hlt
   rwa [i2,j2] at this
  ·right;rw [←i2,←j2]
 have fin:∀ n:Nat,n≤l.length→(∀ t x,t < n→l[t]? = some x→Z8 key x < 0)→(∀ t x,n≤t→l[t]? = some x→0≤Z8 key x)→Ev (fun k => Z1.l0 k l key (l.length:Int) (n:Int) (n:Int)) (((Z08 (Z8 key) l:Nat):Int),stands (Z8 key) l):=fun n hn h1 h2 => by
  have ea:=Z5Q (Z8 key) l n hn h1 h2
  refine Ev.step (fun _ => rfl) ?_
  simp only [Z1.l0]
  refine Ev.neg (by omega) ?_
  unfold stands
  rw [ea]
  by_cases hc:n < l.length
  ·rw [hget n hc]
   exact Ev.pos (by omega) (Ev.pos (by omega) (Ev.pos (by omega) (Ev.call (a:=Z8 key (Z0k l (n:Int))) rfl (Ev.done rfl))))
  ·rw [List.getElem?_eq_none (by omega)]
   exact Ev.neg (by omega) (Ev.now _)
 intro m
 induction m with
 | zero =>
  intro lo hi h0 h1 h2 h3 h4
  obtain rfl:lo = hi:=by omega
  exact fin lo h1 h3 h4
 | succ m ih =>
  intro lo hi h0 h1 h2 h3 h4
  by_cases hc:lo < hi
  ·have em:wrap64 (((wrap64 ((lo:Int) + (hi:Int))) % 18446744073709551616) / 2) = (((lo + hi) / 2:Nat):Int):=by rw [Z9 (n:=(lo:Int) + (hi:Int)) (by omega) (by omega),Z9 (by omega) (by omega)];omega
   refine Ev.step (fun _ => rfl) ?_
   simp only [Z1.l0,em]
   generalize hn:(lo + hi) / 2 = n
   have hn1:lo≤n:=by omega
   have hn2:n < hi:=by omega
   refine Ev.pos (by omega) (Ev.pos (by omega) (Ev.pos (by omega) (Ev.call (a:=Z8 key (Z0k l (n:Int))) rfl (Ev.ite (fun hk => ?_) (fun hk => ?_)))))
   ·rw [Z5 (show n≤9223372036854775806 by omega)]
    refine ih (n + 1) hi (by omega) h1 (by omega) (fun t x ht hx => ?_) h4
    rcases hmono t n x _ (by omega) hx (hget n (by omega)) with hm | rfl
    ·rw [Z7G] at hk ⊢;exact Z1H hm hk
    ·exact hk
   ·refine ih lo n (by omega) (by omega) (by omega) h3 (fun t x ht hx => ?_)
    rcases hmono n t _ x ht (hget n (by omega)) hx with hm | rfl
    ·refine Int.not_lt.1 fun hx' => hk ?_
     rw [Z7G] at hx' ⊢;exact Z1H hm hx'
    ·exact Int.not_lt.1 hk
  ·obtain rfl:lo = hi:=by omega
   exact fin lo h1 h3 h4
theorem Z2b (l:List S122) (hl:l.length≤1048576) (h:Z1S l) (key:ByteArray):Ev (fun k => Z1.f k l key) (((Z08 (Z8 key) l:Nat):Int),stands (Z8 key) l):=by
 unfold Z1.f
 exact Z21 l hl h key l.length 0 l.length (by omega) (by omega) (by omega) (fun t x ht => absurd ht (Nat.not_lt_zero _)) (fun t x ht hx => by have:=(List.getElem?_eq_some_iff.1 hx).1;omega)
theorem Z5w (l:List S122) (hl:l.length≤1048576) (h:Z1S l) (key:ByteArray):Ev (fun k => Z2m.f k l key) (((Z08 (Z8 key) l:Nat):Int),stands (Z8 key) l):=by
 unfold Z2m.f
 exact Ev.bind (Z2b l hl h key) (Ev.now _)
theorem Z2F (l:List S122) (hd:ZT l = true) (key:ByteArray):Ev (fun k => Z1g.f k l key) (Zn key l,stands (Z8 key) l):=by
 obtain ⟨hl,hu⟩:=Z0z hd
 unfold Z1g.f Zn
 refine Ev.bind (Z3i l (by omega)) ?_
 rw [hd]
 refine Ev.pos rfl (Ev.bind (Z5w l (by omega) hu key) ?_)
 cases hs:stands (Z8 key) l
 ·exact Ev.neg (by simp) (Ev.done (by simp))
 ·obtain ⟨x,hx,-⟩:=Z4I hs
  obtain ⟨h1,-⟩:=List.getElem?_eq_some_iff.1 hx
  exact Ev.pos rfl (Ev.pos (by omega) (Ev.pos (by omega) (Ev.done (by simp))))
theorem Z7P {x:S145} (h:Z8k x = true):(1≤x.f0.size∧x.f0.size≤10)∧(0≤x.f1∧x.f1≤999)∧(0≤x.f2∧x.f2≤20000)∧(0≤x.f3∧x.f3≤40):=by
 simp only [Z8k,Bool.and_eq_true] at h
 obtain ⟨h1,h2,h3,h4⟩:=h
 have:=Zr.1 h1;have:=Zr.1 h2;have:=Zr.1 h3;have:=Zr.1 h4
 omega
def Z1e (d:List S122) (x:S145):S147:=⟨x.f0,(Zn (segT x.f1) d).extract x.f2.toNat (x.f2 + x.f3).toNat⟩
def Z68 (d:List S122):List S145→List S147→List S147×Bool
 | [],acc => (acc,true)
 | x::t,acc => if x.f2 + x.f3 > ((Zn (segT x.f1) d).size:Int) then ([],false) else Z68 d t (acc++[Z1e d x])
def Z5u (d:List S122) (dir:List S145):List S147×Bool:=if (ZT d && dirOk dir) = true then Z68 d dir [] else ([],false)
theorem Z8F (d:List S122) (hd:ZT d = true) (s0:List Int) (a1 a2 a3:Int) (s4:List Int) (dir:List S145) (a6:Int) (hl:dir.length≤1048576):∀ (rest:List S145) (n:Nat) (acc:List S147),dir.drop n = rest→(∀ x∈rest,Z8k x = true)→acc.length + rest.length≤4000000 →
  Ev (fun k => Zw.l0 k acc (n:Int) d s0 a1 a2 a3 s4 dir a6) (Z68 d rest acc):=by
 obtain ⟨hdl,hu⟩:=Z0z hd
 intro rest
 induction rest with
 | nil =>
  intro n acc h _ _
  have:=ZE h
  refine Ev.step (fun _ => rfl) ?_
  simp only [Zw.l0]
  exact Ev.neg (by omega) (Ev.now _)
 | cons x t ih =>
  intro n acc h hm ha
  obtain ⟨h1,-,h3⟩:=Zi h
  obtain ⟨-,-,z2,z3⟩:=Z7P (hm x List.mem_cons_self)
  rw [List.length_cons] at ha
  refine Ev.step (fun _ => rfl) ?_
  simp only [Zw.l0,Z1G h,Z5 (show n≤9223372036854775806 by omega),Z9 (show -9223372036854775808≤x.f2 + x.f3 by omega) (by omega)]
  refine Ev.pos (by omega) (Ev.pos (by omega) (Ev.bind (Z19 x.f1) (Ev.bind (Z3F d (by omega) hu _) ?_)))
  rw [Z68]
  refine Ev.ite (fun hc => Ev.done (by rw [if_pos hc])) (fun hc => ?_)
  rw [if_neg hc]
  exact Ev.pos (by omega) (Ev.pos (by omega) (Ev.pos (by omega) (Ev.pos (by omega) (ih (n + 1) _ h3 (fun y hy => hm y (List.mem_cons_of_mem _ hy)) (by simp only [List.length_append,List.length_cons,List.length_nil];omega)))))
theorem dirOk_all {l:List S145} (h:dirOk l = true):l.length≤60∧∀ x∈l,Z8k x = true:=by
 rw [dirOk,Bool.and_eq_true,decide_eq_true_iff] at h
 exact ⟨h.1,dirIn_mem h.2⟩
theorem Z6e (d:List S122) (hd:d.length≤1048576) (s0:List Int) (a1 a2 a3:Int) (s4:List Int) (dir:List S145) (a6:Int) (hl:dir.length≤1048576):Ev (fun k => Zw.f k d s0 a1 a2 a3 s4 dir a6) (Z5u d dir):=by
 unfold Zw.f Z5u
 refine Ev.call rfl (Ev.bind (Z2C d hd) ?_)
 cases h1:ZT d
 ·refine Ev.neg (by simp) (Ev.step (fun _ => rfl) ?_)
  simp only [Zw.j0]
  exact Ev.pos (by simp) (Ev.done (by simp))
 ·refine Ev.pos rfl (Ev.bind (Z88 dir (by omega)) ?_)
  refine Ev.step (fun _ => rfl) ?_
  simp only [Zw.j0]
  cases h2:dirOk dir
  ·exact Ev.pos (by simp) (Ev.done (by simp))
  ·obtain ⟨k1,k2⟩:=dirOk_all h2
   exact Ev.neg (by simp) (Ev.eq (Z8F d h1 s0 a1 a2 a3 s4 dir a6 hl dir 0 [] rfl k2 (by simp;omega)) (by simp))
theorem Z7S (d:List S122) (hd:ZT d = true) (dir:List S145) (hl:dir.length≤1048576):∀ (rest:List S145) (n:Nat) (acc:List S147),dir.drop n = rest→(∀ x∈rest,Z8k x = true)→acc.length + rest.length≤4000000 →
  Ev (fun k => Zy.l0 k acc dir (dir.length:Int) (n:Int) d) (Z68 d rest acc):=by
 intro rest
 induction rest with
 | nil =>
  intro n acc h _ _
  have:=ZE h
  refine Ev.step (fun _ => rfl) ?_
  simp only [Zy.l0]
  exact Ev.neg (by omega) (Ev.now _)
 | cons x t ih =>
  intro n acc h hm ha
  obtain ⟨h1,-,h3⟩:=Zi h
  obtain ⟨-,-,z2,z3⟩:=Z7P (hm x List.mem_cons_self)
  rw [List.length_cons] at ha
  refine Ev.step (fun _ => rfl) ?_
  simp only [Zy.l0,Z1G h,Z5 (show n≤9223372036854775806 by omega),Z9 (show -9223372036854775808≤x.f2 + x.f3 by omega) (by omega)]
  refine Ev.pos (by omega) (Ev.pos (by omega) (Ev.pos (by omega) (Ev.call (Z0T x.f1) (Ev.bind (Z2F d hd _) ?_))))
  rw [Z68]
  refine Ev.ite (fun hc => Ev.done (by rw [if_pos hc])) (fun hc => ?_)
  rw [if_neg hc]
  dsimp only at hc
  exact Ev.pos (by omega) (Ev.pos (by omega) (Ev.pos (by dsimp only;omega) (Ev.pos (by omega) (ih (n + 1) _ h3 (fun y hy => hm y (List.mem_cons_of_mem _ hy)) (by simp only [List.length_append,List.length_cons,List.length_nil];omega)))))
theorem Zao (d:List S122) (hd:d.length≤1048576) (s0:List Int) (a1 a2 a3:Int) (s4:List Int) (dir:List S145) (a6:Int) (hl:dir.length≤1048576):Ev (fun k => Zy.f k d s0 a1 a2 a3 s4 dir a6) (Z5u d dir):=by
 unfold Zy.f Z5u
 refine Ev.bind (Z3i d hd) ?_
 cases h1:ZT d
 ·refine Ev.neg (by simp) (Ev.step (fun _ => rfl) ?_)
  simp only [Zy.j0]
  exact Ev.pos (by simp) (Ev.done (by simp))
 ·refine Ev.pos rfl (Ev.bind (Z62 dir (by omega)) ?_)
  refine Ev.step (fun _ => rfl) ?_
  simp only [Zy.j0]
  cases h2:dirOk dir
  ·exact Ev.pos (by simp) (Ev.done (by simp))
  ·obtain ⟨k1,k2⟩:=dirOk_all h2
   exact Ev.neg (by simp) (Ev.eq (Z7S d h1 dir hl dir 0 [] rfl k2 (by simp;omega)) (by simp))
def keys8:List ByteArray:=[⟨#[107,97]⟩,⟨#[107,98]⟩,⟨#[107,99]⟩,⟨#[110]⟩,⟨#[115,49]⟩,⟨#[115,50]⟩,⟨#[107,100]⟩,⟨#[122,122]⟩]
theorem Zan {l:List Int} (hl:l.length≤140737488351232) {s:List Int} {i:Int} (y:Int) (h:Cu l s i):To (fun _ => Z37.f s i y) (fun r => r.1∈keys8∧Cu l r.2.1 r.2.2.1):=by
 unfold Z37.f
 refine To.bind (Zbd hl y h _ (by simp)) (fun r p => To.now ⟨?_,p.2⟩)
 have:=p.1
 simp only [List.mem_cons,List.not_mem_nil,or_false] at this
 simp only [keys8,List.mem_cons,List.not_mem_nil,or_false]
 rcases this with h | h | h | h | h | h | h <;> simp [h]
theorem rdC_mem {xs:List S162} {n:Nat} (h:n < xs.length):ZS xs (n:Int)∈xs:=List.mem_of_getElem? (rdT162_get h)
def Z5m (N:Nat) (l:List S162):Prop:=l.length≤N∧∀ x∈l,x.f0∈keys8
theorem Z8Y {N:Nat} {l:List S162} {x:S162} (h:Z5m N l) (hx:x.f0∈keys8):Z5m (N + 1) (l++[x]):=⟨by simp;exact h.1,fun y hy => by
 rcases List.mem_append.1 hy with hy | hy
 ·exact h.2 y hy
 ·obtain rfl:=List.mem_singleton.1 hy;exact hx⟩
theorem Zap {P:Int×List S162×List Int×Int×Int→Prop} (x6 a0:Int) (z:List S162) (st:Int) (ch:List S162) (hc:Z5m 100 ch) (key val:ByteArray) (g:Bool) (s:List Int) (i y:Int) (N:Nat) (hN:N≤1000)
  (k0:∀ nx,Z5m (N + ch.length) nx→To (fun k => Zj.l0 k (wrap64 (x6 + 1)) a0 z st nx s i y) P):∀ (m n:Nat) (acc:List S162),ch.length - n≤m→n≤ch.length→Z5m (N + n) acc→To (fun k => Zj.l2 k x6 acc (n:Int) a0 z st ch key val g s i y) P:=by
 intro m
 have hc1:=hc.1
 induction m with
 | zero =>
  intro n acc h1 h2 h3
  refine To.step (fun _ => rfl) ?_
  simp only [Zj.l2]
  exact To.neg (by omega) (k0 acc ⟨by have:=h3.1;omega,h3.2⟩)
 | succ m ih =>
  intro n acc h1 h2 h3
  have h31:=h3.1
  refine To.step (fun _ => rfl) ?_
  simp only [Zj.l2,Z5 (show n≤9223372036854775806 by omega)]
  refine To.ite (fun c => To.pos (by omega) (To.ite (fun _ => To.pos (by omega) ?_) (fun _ => ?_))) (fun c => k0 acc ⟨by omega,h3.2⟩)
  ·exact ih (n + 1) _ (by omega) (by omega) (Z8Y h3 (hc.2 _ (rdC_mem (by omega))))
  ·exact ih (n + 1) _ (by omega) (by omega) ⟨by omega,h3.2⟩
theorem Z6a {P:Int×List S162×List Int×Int×Int→Prop} (x6 a0:Int) (z:List S162) (st:Int) (ch:List S162) (hc:Z5m 100 ch) (key val:ByteArray) (hk:key∈keys8) (g:Bool) (s:List Int) (i y:Int)
  (k0:∀ nx,Z5m (2 * ch.length + 1) nx→To (fun k => Zj.l0 k (wrap64 (x6 + 1)) a0 z st nx s i y) P):∀ (m n:Nat) (acc:List S162),ch.length - n≤m→n≤ch.length→Z5m n acc→To (fun k => Zj.l1 k x6 acc (n:Int) a0 z st ch key val g s i y) P:=by
 intro m
 have hc1:=hc.1
 have fin:∀ acc,Z5m ch.length acc→To (fun k => Zj.l2 k x6 (acc++[(⟨key,val,g⟩:S162)]) 0 a0 z st ch key val g s i y) P:=fun acc h =>
  Zap x6 a0 z st ch hc key val g s i y (ch.length + 1) (by omega) (fun nx hn => k0 nx ⟨by have:=hn.1;omega,hn.2⟩) ch.length 0 _ (by omega) (by omega) (Z8Y h hk)
 induction m with
 | zero =>
  intro n acc h1 h2 h3
  have h31:=h3.1
  refine To.step (fun _ => rfl) ?_
  simp only [Zj.l1]
  exact To.neg (by omega) (To.pos (by omega) (fin acc ⟨by omega,h3.2⟩))
 | succ m ih =>
  intro n acc h1 h2 h3
  have h31:=h3.1
  refine To.step (fun _ => rfl) ?_
  simp only [Zj.l1,Z5 (show n≤9223372036854775806 by omega)]
  refine To.ite (fun c => To.pos (by omega) (To.ite (fun _ => To.pos (by omega) ?_) (fun _ => ?_))) (fun c => To.pos (by omega) (fin acc ⟨by omega,h3.2⟩))
  ·exact ih (n + 1) _ (by omega) (by omega) (Z8Y h3 (hc.2 _ (rdC_mem (by omega))))
  ·exact ih (n + 1) _ (by omega) (by omega) ⟨by omega,h3.2⟩
theorem Zas {l:List Int} (hl:l.length≤140737488351232) (a0:Int) (z:List S162) (st:Int):∀ (m n:Nat) (ch:List S162) (s:List Int) (i y:Int),3 - n≤m→n≤3→Z5m (2 ^ n - 1) ch→Cu l s i→To (fun k => Zj.l0 k (n:Int) a0 z st ch s i y) (fun r => r.1 = st∧Z5m 8 r.2.1∧Cu l r.2.2.1 r.2.2.2.1):=by
 intro m
 induction m with
 | zero =>
  intro n ch s i y h1 h2 h3 h
  obtain rfl:n = 3:=by omega
  refine To.step (fun _ => rfl) ?_
  simp only [Zj.l0]
  exact To.bind (Z1r hl y h 4) (fun r p => To.neg (by have:=p.2.1 (by omega);omega) (To.now ⟨rfl,⟨show ch.length≤8 by have:=h3.1;omega,h3.2⟩,p.2.2⟩))
 | succ m ih =>
  intro n ch s i y h1 h2 h3 h
  have h31:=h3.1
  have hp:2 ^ n≤8:=Nat.pow_le_pow_right (n:=2) (by omega) h2
  have hq:2 ^ (n + 1) = 2 * 2 ^ n:=by rw [Nat.pow_succ];omega
  have hr:1≤2 ^ n:=Nat.one_le_two_pow
  refine To.step (fun _ => rfl) ?_
  simp only [Zj.l0]
  refine To.bind (Z1r hl y h 4) (fun r p => To.ite (fun c => ?_) (fun c => To.now ⟨rfl,⟨show ch.length≤8 by omega,h3.2⟩,p.2.2⟩))
  have hn:n < 3:=by have:=p.2.1 (by omega);omega
  have nx:∀ (s:List Int) (i y:Int),Cu l s i→∀ nx,Z5m (2 * ch.length + 1) nx→To (fun k => Zj.l0 k (wrap64 ((n:Int) + 1)) a0 z st nx s i y) (fun r => r.1 = st∧Z5m 8 r.2.1∧Cu l r.2.2.1 r.2.2.2.1):=fun s i y hs nx hx => by
   rw [Z5 (show n≤9223372036854775806 by omega)]
   exact ih (n + 1) nx s i y (by omega) (by omega) ⟨by have:=hx.1;omega,hx.2⟩ hs
  refine To.bind (Zan hl _ p.2.2) (fun r1 p1 => To.bind (Z1r hl _ p1.2 6) (fun r2 p2 => To.bind (ZaP hl _ p2.2.2 _) (fun r3 p3 => To.bind (Z4f hl _ p3.2 4) (fun r4 p4 => To.ite (fun _ => ?_) (fun _ => ?_)))))
  ·exact Z6a (n:Int) a0 z st ch ⟨by omega,h3.2⟩ r1.1 _ p1.1 true _ _ _ (nx _ _ _ p4) ch.length 0 [] (by omega) (by omega) ⟨by simp,fun x hx => by cases hx⟩
  ·exact Z6a (n:Int) a0 z st ch ⟨by omega,h3.2⟩ r1.1 _ p1.1 false _ _ _ (nx _ _ _ p4) ch.length 0 [] (by omega) (by omega) ⟨by simp,fun x hx => by cases hx⟩
theorem Z6l {l:List Int} (hl:l.length≤140737488351232) {s:List Int} {i:Int} (y:Int) (h:Cu l s i) (st:Int):To (fun k => Zj.f k s i y st) (fun r => r.1 = st∧Z5m 8 r.2.1∧Cu l r.2.2.1 r.2.2.2.1):=by
 unfold Zj.f
 exact Zas hl 0 [] st 3 0 [] s i y (by omega) (by omega) ⟨by simp,fun x hx => by cases hx⟩ h
end Go.Ep
