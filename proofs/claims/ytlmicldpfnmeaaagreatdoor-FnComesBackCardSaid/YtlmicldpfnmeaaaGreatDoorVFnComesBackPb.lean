/- The pure statement of the law: its plain function answers true. No conditions but those that each statement names. By this repo's programs; comments are taken out. -/
import Derived.Test.YtlmicldpfnmeaaaGreatDoorVFnComesBackP
set_option linter.all false
namespace Go.Ep
open Go.RowKit Go.Proofs.YtlmicldpfnmeaaaGreatDoorW.PrintWords Go.Proofs.YtlmicldpfnmeaaaGreatDoorW.PrintLast Go.Proofs.YtlmicldpfnmeaaaGreatDoorW.PrintMore Go.Ev
def vl (l:List Int):List Int:=l.flatMap fun n => varL n.toNat
theorem Z9K (x:Int) (l:List Int):vl (x::l) = varL x.toNat++vl l:=rfl
theorem Z2L {s:ByteArray} {a b x:Int} (h:At s a (varL x.toNat) b) (h0:0≤x) (h1:x≤1000000000):Z0e s a false = (x,s,b,false):=by
 rw [Z1Z h (by omega),Int.toNat_of_nonneg h0]
abbrev Man:=List Int×Int×Int×Int×List Int×Bool
def noMan:Man:=([],0,0,0,[],false)
def MDec (x0:ByteArray) (r:Man):Prop:=r = noMan∨∃ segs nx ba bt cf,r = (segs,nx,ba,bt,cf,true)∧Z0R segs nx ba bt cf = (x0,true)
theorem ZbX {segs:List Int} {nx ba bt:Int} {cf:List Int} {s:ByteArray} (h:Z0R segs nx ba bt cf = (s,true)):manOk segs nx ba bt cf = true∧∃ t,Z1R s = (t,true)∧t.size≤20000∧bytesOf t = varL segs.length++(vl segs++(varL nx.toNat++(varL ba.toNat++(varL bt.toNat++(varL cf.length++vl cf))))):=by
 unfold Z0R at h
 by_cases hk:manOk segs nx ba bt cf = true
 ·rw [if_pos hk] at h
  refine ⟨hk,_,Z7A h,(Z4y (Z7A h)).2,?_⟩
  rw [Z1z]
  ·simp [Z1V,vl]
  ·intro x hx
   obtain ⟨n,-,hn⟩:=List.mem_flatMap.1 hx
   exact Z6W _ x hn
 ·rw [if_neg hk] at h;simp at h
theorem man_make {segs:List Int} {nx ba bt:Int} {cf:List Int} {s t:ByteArray} (hk:manOk segs nx ba bt cf = true) (hu:Z1R s = (t,true)) (hb:bytesOf t = varL segs.length++(vl segs++(varL nx.toNat++(varL ba.toNat++(varL bt.toNat++(varL cf.length++vl cf)))))):Z0R segs nx ba bt cf = (s,true):=by
 unfold Z0R
 rw [if_pos hk]
 have:strOfNums ((Z1V segs nx ba bt cf).flatMap fun n => varL n.toNat) = t:=Z0N (by
  rw [Z1z,hb]
  ·simp [Z1V,vl]
  ·intro x hx
   obtain ⟨n,-,hn⟩:=List.mem_flatMap.1 hx
   exact Z6W _ x hn)
 rw [this]
 exact (Z4y hu).1
theorem ZaC (x0:ByteArray) (segs:List Int) (nx ba bt:Int) (cf:List Int) (hs:segs.length≤1048576) (hc:cf.length≤1048576):To (fun k => (Zh.f k segs nx ba bt cf).bind fun t => if t.2 = true then (if t.1.toList = x0.toList then (some (segs,nx,ba,bt,cf,true)) else (some ([],0,0,0,[],false))) else (some ([],0,0,0,[],false))) (MDec x0):=by
 refine To.bind (To.ev (P:=fun z => z = Z0R segs nx ba bt cf) (Z0K segs nx ba bt cf (by omega) (by omega)) rfl) (fun z ez => ?_)
 refine To.ite (fun q1 => To.ite (fun q2 => To.now (Or.inr ⟨_,_,_,_,_,rfl,?_⟩)) (fun _ => To.now (Or.inl rfl))) (fun _ => To.now (Or.inl rfl))
 rw [←ez]
 exact Prod.ext (toList_inj.1 q2) q1
theorem sman_l1 (x0 s:ByteArray) (hs:s.size≤1048576) (N:Int) (segs:List Int) (hl:segs.length≤1048576) (nx ba bt:Int):∀ (m n:Nat) (cf:List Int) (a:Int) (b:Bool),5 - n≤m→n≤5→cf.length = n→0≤a→a≤s.size →
  To (fun k => Z3.l1 k x0 N (n:Int) s a b segs nx ba bt cf) (MDec x0):=by
 intro m
 induction m with
 | zero =>
  intro n cf a b h1 h2 h3 h4 h5
  refine To.step (fun _ => rfl) ?_
  simp only [Z3.l1]
  refine To.ite (fun _ => To.ite (fun _ => ?_) (fun _ => To.neg (by omega) (ZaC x0 segs nx ba bt cf hl (by omega)))) (fun _ => ?_)
  ·exact To.bind (To.ev (P:=fun _ => True) (Z0K segs nx ba bt cf (by omega) (by omega)) trivial) (fun _ _ => To.now (Or.inl rfl))
  ·cases b
   ·simpa using ZaC x0 segs nx ba bt cf hl (by omega)
   ·simp only [if_true]
    exact To.bind (To.ev (P:=fun _ => True) (Z0K segs nx ba bt cf (by omega) (by omega)) trivial) (fun _ _ => To.now (Or.inl rfl))
 | succ m ih =>
  intro n cf a b h1 h2 h3 h4 h5
  refine To.step (fun _ => rfl) ?_
  simp only [Z3.l1]
  refine To.ite (fun _ => To.ite (fun _ => ?_) (fun _ => To.ite (fun hc => ?_) (fun _ => ZaC x0 segs nx ba bt cf hl (by omega)))) (fun _ => ?_)
  ·exact To.bind (To.ev (P:=fun _ => True) (Z0K segs nx ba bt cf (by omega) (by omega)) trivial) (fun _ _ => To.now (Or.inl rfl))
  ·refine To.bind (To.ev (P:=fun r => r = Z0e s a b) (Z0c s a b (by omega)) rfl) (fun r e => ?_)
   subst e
   have p:=Z0E (s:=s) (a:=a) (bad:=b) h4 h5
   simp only [Z12,Z5 (show n≤9223372036854775806 by omega)]
   exact To.pos (by omega) (ih (n + 1) _ _ _ (by omega) (by omega) (by simp [h3]) p.1 p.2)
  ·cases b
   ·simpa using ZaC x0 segs nx ba bt cf hl (by omega)
   ·simp only [if_true]
    exact To.bind (To.ev (P:=fun _ => True) (Z0K segs nx ba bt cf (by omega) (by omega)) trivial) (fun _ _ => To.now (Or.inl rfl))
theorem Z9G (x0 s:ByteArray) (hs:s.size≤1048576) (segs:List Int) (hl:segs.length≤1048576) (x1 x2 x3 a:Int) (b:Bool) (h0:0≤a) (h1:a≤s.size):To (fun k => Z3.j1 k x0 s a b segs x1 x2 x3) (MDec x0):=by
 refine To.step (fun _ => rfl) ?_
 simp only [Z3.j1]
 refine To.bind (To.ev (P:=fun r => r.2.1 = s∧0≤r.2.2.1∧r.2.2.1≤(s.size:Int)) (Z0c s a b (by omega)) ⟨Z12 _ _ _,Z0E h0 h1⟩) (fun r1 p1 => ?_)
 obtain ⟨n1,s1,a1,b1⟩:=r1
 obtain ⟨e1,p1,p1'⟩:=p1
 dsimp only at e1 p1 p1'
 subst e1
 refine To.bind (To.ev (P:=fun r => r.2.1 = s1∧0≤r.2.2.1∧r.2.2.1≤(s1.size:Int)) (Z0c s1 a1 b1 (by omega)) ⟨Z12 _ _ _,Z0E p1 p1'⟩) (fun r2 p2 => ?_)
 obtain ⟨n2,s2,a2,b2⟩:=r2
 obtain ⟨e2,p2,p2'⟩:=p2
 dsimp only at e2 p2 p2'
 subst e2
 refine To.bind (To.ev (P:=fun r => r.2.1 = s2∧0≤r.2.2.1∧r.2.2.1≤(s2.size:Int)) (Z0c s2 a2 b2 (by omega)) ⟨Z12 _ _ _,Z0E p2 p2'⟩) (fun r3 p3 => ?_)
 obtain ⟨n3,s3,a3,b3⟩:=r3
 obtain ⟨e3,p3,p3'⟩:=p3
 dsimp only at e3 p3 p3'
 subst e3
 refine To.bind (To.ev (P:=fun r => r.2.1 = s3∧0≤r.2.2.1∧r.2.2.1≤(s3.size:Int)) (Z0c s3 a3 b3 (by omega)) ⟨Z12 _ _ _,Z0E p3 p3'⟩) (fun r4 p4 => ?_)
 obtain ⟨n4,s4,a4,b4⟩:=r4
 obtain ⟨e4,p4,p4'⟩:=p4
 dsimp only at e4 p4 p4'
 subst e4
 exact sman_l1 x0 s4 hs n4 segs hl n1 n2 n3 5 0 [] a4 b4 (by omega) (by omega) rfl p4 p4'
theorem sman_l0 (x0 s:ByteArray) (hs:s.size≤1048576) (N x1 x2 x3:Int):∀ (m n:Nat) (segs:List Int) (a:Int) (b:Bool),9 - n≤m→n≤9→segs.length = n→0≤a→a≤s.size →
  To (fun k => Z3.l0 k x0 N (n:Int) s a b segs x1 x2 x3) (MDec x0):=by
 intro m
 induction m with
 | zero =>
  intro n segs a b h1 h2 h3 h4 h5
  refine To.step (fun _ => rfl) ?_
  simp only [Z3.l0]
  exact To.ite (fun _ => To.ite (fun _ => Z9G x0 s hs segs (by omega) x1 x2 x3 a b h4 h5) (fun _ => To.neg (by omega) (Z9G x0 s hs segs (by omega) x1 x2 x3 a b h4 h5))) (fun _ => Z9G x0 s hs segs (by omega) x1 x2 x3 a b h4 h5)
 | succ m ih =>
  intro n segs a b h1 h2 h3 h4 h5
  refine To.step (fun _ => rfl) ?_
  simp only [Z3.l0]
  refine To.ite (fun _ => To.ite (fun _ => Z9G x0 s hs segs (by omega) x1 x2 x3 a b h4 h5) (fun _ => To.ite (fun hc => ?_) (fun _ => Z9G x0 s hs segs (by omega) x1 x2 x3 a b h4 h5))) (fun _ => Z9G x0 s hs segs (by omega) x1 x2 x3 a b h4 h5)
  refine To.bind (To.ev (P:=fun r => r = Z0e s a b) (Z0c s a b (by omega)) rfl) (fun r e => ?_)
  subst e
  have p:=Z0E (s:=s) (a:=a) (bad:=b) h4 h5
  simp only [Z12,Z5 (show n≤9223372036854775806 by omega)]
  exact To.pos (by omega) (ih (n + 1) _ _ _ (by omega) (by omega) (by simp [h3]) p.1 p.2)
theorem unseal_small (s:ByteArray):(Z1R s).1.size≤20000:=by
 cases hu:Z1R s with
 | mk t b => cases b with
  | true => exact (Z4y hu).2
  | false => unfold Z1R at hu;split at hu <;> simp_all;rw [←hu];exact Nat.zero_le _
theorem Z7e (s:ByteArray) (hs:s.size≤1048576):To (fun k => Z3.f k s) (MDec s):=by
 unfold Z3.f
 refine To.bind (To.ev (P:=fun r => r = Z1R s) (Z6g s hs) rfl) (fun r e => ?_)
 subst e
 have hz:=unseal_small s
 refine To.bind (To.ev (P:=fun r => r = _) (Z0c (Z1R s).1 0 (!(Z1R s).2) (by omega)) rfl) (fun r e => ?_)
 subst e
 have p:=Z0E (s:=(Z1R s).1) (a:=0) (bad:=!(Z1R s).2) (by omega) (by omega)
 simp only [Z12]
 exact sman_l0 s _ (by omega) _ 0 0 0 9 0 [] _ _ (by omega) (by omega) rfl p.1 p.2
theorem sman_fwd1 (x0 s:ByteArray) (hs:s.size≤1048576) (segs:List Int) (hl:segs.length≤1048576) (nx ba bt:Int) (conf:List Int) (hcl:conf.length≤4) (hm:∀ x∈conf,0≤x∧x≤1000000) (ht:Z0R segs nx ba bt conf = (x0,true)):∀ (rest:List Int) (n:Nat) (cf:List Int) (a b:Int),cf++rest = conf→cf.length = n→At s a (vl rest) b →
  Ev (fun k => Z3.l1 k x0 (conf.length:Int) (n:Int) s a false segs nx ba bt cf) (segs,nx,ba,bt,conf,true):=by
 intro rest
 induction rest with
 | nil =>
  intro n cf a b h1 h2 h3
  rw [List.append_nil] at h1
  subst h1
  refine Ev.step (fun _ => rfl) ?_
  simp only [Z3.l1]
  refine Ev.neg (by omega) (Ev.bind (Z0K segs nx ba bt cf (by omega) (by omega)) ?_)
  rw [ht]
  exact Ev.neg (by simp) (Ev.pos rfl (Ev.pos rfl (Ev.now _)))
 | cons x t ih =>
  intro n cf a b h1 h2 h3
  have hlen:cf.length + (t.length + 1) = conf.length:=by rw [←h1];simp
  have hx:=hm x (by rw [←h1];simp)
  rw [Z9K] at h3
  obtain ⟨q1,q2⟩:=h3.split
  refine Ev.step (fun _ => rfl) ?_
  simp only [Z3.l1,Z5 (show n≤9223372036854775806 by omega)]
  refine Ev.pos (by omega) (Ev.neg (by simp) (Ev.pos (by omega) (Ev.bind (Ev.eq (Z0c s a false (by omega)) (Z2L q1 hx.1 (by omega))) (Ev.pos (by omega) ?_))))
  exact ih (n + 1) (cf++[x]) _ b (by rw [←h1,List.append_assoc];rfl) (by simp [h2]) q2
theorem sman_fwd0 (x0 s:ByteArray) (hs:s.size≤1048576) (segs:List Int) (hl:segs.length≤8) (hsm:∀ x∈segs,0≤x∧x≤1000000) (nx ba bt:Int) (h1':0≤nx∧nx≤1000000) (h2':0≤ba∧ba≤1000000) (h3':0≤bt∧bt≤1000000) (conf:List Int) (hcl:conf.length≤4) (hm:∀ x∈conf,0≤x∧x≤1000000) (ht:Z0R segs nx ba bt conf = (x0,true)) (x1 x2 x3:Int):∀ (rest:List Int) (n:Nat) (sg:List Int) (a b:Int),sg++rest = segs→sg.length = n→At s a (vl rest++(varL nx.toNat++(varL ba.toNat++(varL bt.toNat++(varL conf.length++vl conf))))) b →
  Ev (fun k => Z3.l0 k x0 (segs.length:Int) (n:Int) s a false sg x1 x2 x3) (segs,nx,ba,bt,conf,true):=by
 intro rest
 induction rest with
 | nil =>
  intro n sg a b h1 h2 h3
  rw [List.append_nil] at h1
  subst h1
  obtain ⟨q1,h3⟩:=(show At s a (varL nx.toNat++(varL ba.toNat++(varL bt.toNat++(varL conf.length++vl conf)))) b from h3).split
  obtain ⟨q2,h3⟩:=h3.split
  obtain ⟨q3,h3⟩:=h3.split
  obtain ⟨q4,h3⟩:=h3.split
  refine Ev.step (fun _ => rfl) ?_
  simp only [Z3.l0]
  refine Ev.neg (by omega) (Ev.step (fun _ => rfl) ?_)
  simp only [Z3.j1]
  refine Ev.bind (Ev.eq (Z0c s a false (by omega)) (Z2L q1 h1'.1 (by omega))) (Ev.bind (Ev.eq (Z0c s _ false (by omega)) (Z2L q2 h2'.1 (by omega))) (Ev.bind (Ev.eq (Z0c s _ false (by omega)) (Z2L q3 h3'.1 (by omega))) (Ev.bind (Ev.eq (Z0c s _ false (by omega)) (Z1Z q4 (by omega))) ?_)))
  exact sman_fwd1 x0 s hs sg (by omega) nx ba bt conf hcl hm ht conf 0 [] _ b rfl rfl h3
 | cons x t ih =>
  intro n sg a b h1 h2 h3
  have hlen:sg.length + (t.length + 1) = segs.length:=by rw [←h1];simp
  have hx:=hsm x (by rw [←h1];simp)
  rw [Z9K,List.append_assoc] at h3
  obtain ⟨q1,q2⟩:=h3.split
  refine Ev.step (fun _ => rfl) ?_
  simp only [Z3.l0,Z5 (show n≤9223372036854775806 by omega)]
  refine Ev.pos (by omega) (Ev.neg (by simp) (Ev.pos (by omega) (Ev.bind (Ev.eq (Z0c s a false (by omega)) (Z2L q1 hx.1 (by omega))) (Ev.pos (by omega) ?_))))
  exact ih (n + 1) (sg++[x]) _ b (by rw [←h1,List.append_assoc];rfl) (by simp [h2]) q2
theorem Z4q (s:ByteArray) (hs:s.size≤1048576) (segs:List Int) (nx ba bt:Int) (conf:List Int) (h:Z0R segs nx ba bt conf = (s,true)):Ev (fun k => Z3.f k s) (segs,nx,ba,bt,conf,true):=by
 obtain ⟨hk,t,hu,ht,hb⟩:=ZbX h
 obtain ⟨b1,b2,b3,b4,b5,b6,b7⟩:=ZY hk
 have hw:=At.whole t
 rw [hb] at hw
 obtain ⟨q1,q2⟩:=hw.split
 unfold Z3.f
 refine Ev.bind (Ev.eq (Z6g s hs) hu) (Ev.bind (Ev.eq (Z0c t 0 false (by omega)) (Z1Z q1 (by omega))) ?_)
 exact sman_fwd0 s t (by omega) segs (by omega) (fun x hx => by have:=b6 x hx;omega) nx ba bt (by omega) (by omega) (by omega) conf (by omega) (fun x hx => by have:=b7 x hx;omega) h 0 0 0 segs 0 [] _ _ rfl rfl q2
theorem Z6R (N i:Int) (s:ByteArray) (a:Int) (l:List Int) (x1 x2 x3:Int) (l4:List Int):To (fun k => Zs.l0 k N i s a true l x1 x2 x3 l4) (fun r => r = (s,a,true,l,x1,x2,x3,l4)):=by
 refine To.step (fun _ => rfl) ?_
 simp only [Zs.l0]
 exact To.ite (fun _ => To.pos (by simp) (To.now rfl)) (fun _ => To.now rfl)
theorem eachM1_loop (s:ByteArray) (hs:s.size≤1000000) (N x1 x2 x3:Int) (l4:List Int):∀ (m:Nat) (i a:Int) (b:Bool) (acc:List Int),0≤a→a≤s.size→(acc.length:Int)≤a + (if b = true then 1 else 0)→(s.size:Int) - a + (if b = true then 0 else 1)≤m→0≤i→i≤2000000000→N≤1000000000 →
  To (fun k => Zs.l0 k N i s a b acc x1 x2 x3 l4) (fun r => r.1 = s∧r.2.2.2.1.length≤1048576∧r.2.2.2.2 = (x1,x2,x3,l4)∧(0≤r.2.1∧r.2.1≤(s.size:Int))∧(r.2.2.1 = false→∃ rest,r.2.2.2.1 = acc++rest∧At s a (vl rest) r.2.1∧(i≤N→i + (rest.length:Int) = N))):=by
 intro m
 induction m with
 | zero =>
  intro i a b acc h0 h1 h2 h3 h4 h5 h6
  obtain rfl:b = true:=by cases b <;> simp_all;omega
  simp only [if_true] at h2
  exact To.mono (Z6R _ _ _ _ _ _ _ _ _) (fun r q => by subst q;exact ⟨rfl,by dsimp only;omega,rfl,⟨h0,h1⟩,fun h => by cases h⟩)
 | succ m ih =>
  intro i a b acc h0 h1 h2 h3 h4 h5 h6
  cases b with
  | true =>
   simp only [if_true] at h2
   exact To.mono (Z6R _ _ _ _ _ _ _ _ _) (fun r q => by subst q;exact ⟨rfl,by dsimp only;omega,rfl,⟨h0,h1⟩,fun h => by cases h⟩)
  | false =>
   simp only [Bool.false_eq_true,if_false] at h2 h3
   refine To.step (fun _ => rfl) ?_
   simp only [Zs.l0]
   refine To.ite (fun c => To.neg (by simp) ?_) (fun c => To.now ⟨rfl,by dsimp only;omega,rfl,⟨h0,h1⟩,fun _ => ⟨[],by simp,At.nil h0 h1,fun h => by simp;omega⟩⟩)
   refine To.bind (P:=fun r => r = (acc++[(Z0e s a false).1],x1,x2,x3,l4,s,(Z0e s a false).2.2.1,(Z0e s a false).2.2.2)) ?_ (fun r e => ?_)
   ·unfold Z1m.f
    refine To.bind (To.ev (P:=fun r => r = Z0e s a false) (ZV s a false (by omega)) rfl) (fun r e => ?_)
    subst e
    simp only [Z12]
    exact To.pos (by omega) (To.now rfl)
   ·subst e
    dsimp only
    rw [Z9 (by omega) (by omega)]
    have hp:=Z0E (s:=s) (a:=a) (bad:=false) h0 h1
    cases hb:(Z0e s a false).2.2.2 with
    | true => exact To.mono (Z6R _ _ _ _ _ _ _ _ _) (fun r q => by subst q;exact ⟨rfl,by simp;omega,rfl,hp,fun h => by cases h⟩)
    | false =>
     obtain ⟨-,m1,-⟩:=Z4G hb
     have m2:=m1.le
     have m3:=Z61 (Z0e s a false).1.toNat
     refine To.mono (ih (i + 1) _ false _ hp.1 hp.2 (by simp;omega) (by simp;omega) (by omega) (by omega) h6) (fun r q => ⟨q.1,q.2.1,q.2.2.1,q.2.2.2.1,fun h => ?_⟩)
     obtain ⟨rest,e1,e2,e3⟩:=q.2.2.2.2 h
     refine ⟨(Z0e s a false).1::rest,by rw [e1];simp,?_,fun _ => ?_⟩
     ·rw [Z9K];exact m1.trans e2
     ·have:=e3 (by omega);simp;omega
theorem eachM1_fwd (s:ByteArray) (hs:s.size≤1048576) (x1 x2 x3:Int) (l4:List Int):∀ (rest:List Int) (i:Nat) (acc:List Int) (a b:Int),(∀ x∈rest,0≤x∧x≤1000000)→i + rest.length≤60→acc.length = i→At s a (vl rest) b →
  Ev (fun k => Zs.l0 k ((i + rest.length:Nat):Int) (i:Int) s a false acc x1 x2 x3 l4) (s,b,false,acc++rest,x1,x2,x3,l4):=by
 intro rest
 induction rest with
 | nil =>
  intro i acc a b h1 h2 h3 h4
  refine Ev.step (fun _ => rfl) ?_
  simp only [Zs.l0]
  have:=h4.le
  refine Ev.neg (by simp) (Ev.done ?_)
  simp only [vl,List.flatMap_nil,List.length_nil] at this
  rw [List.append_nil,show a = b by omega]
 | cons x t ih =>
  intro i acc a b h1 h2 h3 h4
  rw [List.length_cons] at h2
  rw [Z9K] at h4
  obtain ⟨q1,h4⟩:=h4.split
  have hx:=h1 x List.mem_cons_self
  have l1:=q1.le
  refine Ev.step (fun _ => rfl) ?_
  simp only [Zs.l0,Z1m.f,Z5 (show i≤9223372036854775806 by omega)]
  refine Ev.pos (by simp only [List.length_cons];omega) (Ev.neg (by simp) (Ev.bind (a:=(acc++[x],x1,x2,x3,l4,s,a + ((varL x.toNat).length:Int),false)) ?_ ?_))
  ·exact Ev.bind (Ev.eq (ZV s a false (by omega)) (Z2L q1 hx.1 (by omega))) (Ev.pos (by omega) (Ev.now _))
  ·have:=ih (i + 1) (acc++[x]) _ b (fun y hy => h1 y (List.mem_cons_of_mem _ hy)) (by omega) (by simp [h3]) h4
   rw [show i + 1 + t.length = i + (x::t).length by simp;omega] at this
   exact Ev.eq this (by simp)
theorem Z73 (N i:Int) (s:ByteArray) (a:Int) (l:List Int) (x1 x2 x3:Int) (l4:List Int):To (fun k => Zt.l0 k N i s a true l4 x1 x2 x3 l) (fun r => r = (s,a,true,x1,x2,x3,l,l4)):=by
 refine To.step (fun _ => rfl) ?_
 simp only [Zt.l0]
 exact To.ite (fun _ => To.pos (by simp) (To.now rfl)) (fun _ => To.now rfl)
theorem eachM2_loop (s:ByteArray) (hs:s.size≤1000000) (N x1 x2 x3:Int) (l4:List Int):∀ (m:Nat) (i a:Int) (b:Bool) (acc:List Int),0≤a→a≤s.size→(acc.length:Int)≤a + (if b = true then 1 else 0)→(s.size:Int) - a + (if b = true then 0 else 1)≤m→0≤i→i≤2000000000→N≤1000000000 →
  To (fun k => Zt.l0 k N i s a b l4 x1 x2 x3 acc) (fun r => r.1 = s∧r.2.2.2.2.2.2.1.length≤1048576∧(r.2.2.2.1 = x1∧r.2.2.2.2.1 = x2∧r.2.2.2.2.2.1 = x3∧r.2.2.2.2.2.2.2 = l4)∧(0≤r.2.1∧r.2.1≤(s.size:Int))∧(r.2.2.1 = false→∃ rest,r.2.2.2.2.2.2.1 = acc++rest∧At s a (vl rest) r.2.1∧(i≤N→i + (rest.length:Int) = N))):=by
 intro m
 induction m with
 | zero =>
  intro i a b acc h0 h1 h2 h3 h4 h5 h6
  obtain rfl:b = true:=by cases b <;> simp_all;omega
  simp only [if_true] at h2
  exact To.mono (Z73 _ _ _ _ _ _ _ _ _) (fun r q => by subst q;exact ⟨rfl,by dsimp only;omega,⟨rfl,rfl,rfl,rfl⟩,⟨h0,h1⟩,fun h => by cases h⟩)
 | succ m ih =>
  intro i a b acc h0 h1 h2 h3 h4 h5 h6
  cases b with
  | true =>
   simp only [if_true] at h2
   exact To.mono (Z73 _ _ _ _ _ _ _ _ _) (fun r q => by subst q;exact ⟨rfl,by dsimp only;omega,⟨rfl,rfl,rfl,rfl⟩,⟨h0,h1⟩,fun h => by cases h⟩)
  | false =>
   simp only [Bool.false_eq_true,if_false] at h2 h3
   refine To.step (fun _ => rfl) ?_
   simp only [Zt.l0]
   refine To.ite (fun c => To.neg (by simp) ?_) (fun c => To.now ⟨rfl,by dsimp only;omega,⟨rfl,rfl,rfl,rfl⟩,⟨h0,h1⟩,fun _ => ⟨[],by simp,At.nil h0 h1,fun h => by simp;omega⟩⟩)
   refine To.bind (P:=fun r => r = (x1,x2,x3,acc++[(Z0e s a false).1],l4,s,(Z0e s a false).2.2.1,(Z0e s a false).2.2.2)) ?_ (fun r e => ?_)
   ·unfold Z1l.f
    refine To.bind (To.ev (P:=fun r => r = Z0e s a false) (ZV s a false (by omega)) rfl) (fun r e => ?_)
    subst e
    simp only [Z12]
    exact To.pos (by omega) (To.now rfl)
   ·subst e
    dsimp only
    rw [Z9 (by omega) (by omega)]
    have hp:=Z0E (s:=s) (a:=a) (bad:=false) h0 h1
    cases hb:(Z0e s a false).2.2.2 with
    | true => exact To.mono (Z73 _ _ _ _ _ _ _ _ _) (fun r q => by subst q;exact ⟨rfl,by simp;omega,⟨rfl,rfl,rfl,rfl⟩,hp,fun h => by cases h⟩)
    | false =>
     obtain ⟨-,m1,-⟩:=Z4G hb
     have m2:=m1.le
     have m3:=Z61 (Z0e s a false).1.toNat
     refine To.mono (ih (i + 1) _ false _ hp.1 hp.2 (by simp;omega) (by simp;omega) (by omega) (by omega) h6) (fun r q => ⟨q.1,q.2.1,q.2.2.1,q.2.2.2.1,fun h => ?_⟩)
     obtain ⟨rest,e1,e2,e3⟩:=q.2.2.2.2 h
     refine ⟨(Z0e s a false).1::rest,by rw [e1];simp,?_,fun _ => ?_⟩
     ·rw [Z9K];exact m1.trans e2
     ·have:=e3 (by omega);simp;omega
theorem eachM2_fwd (s:ByteArray) (hs:s.size≤1048576) (x1 x2 x3:Int) (l4:List Int):∀ (rest:List Int) (i:Nat) (acc:List Int) (a b:Int),(∀ x∈rest,0≤x∧x≤1000000)→i + rest.length≤60→acc.length = i→At s a (vl rest) b →
  Ev (fun k => Zt.l0 k ((i + rest.length:Nat):Int) (i:Int) s a false l4 x1 x2 x3 acc) (s,b,false,x1,x2,x3,acc++rest,l4):=by
 intro rest
 induction rest with
 | nil =>
  intro i acc a b h1 h2 h3 h4
  refine Ev.step (fun _ => rfl) ?_
  simp only [Zt.l0]
  have:=h4.le
  refine Ev.neg (by simp) (Ev.done ?_)
  simp only [vl,List.flatMap_nil,List.length_nil] at this
  rw [List.append_nil,show a = b by omega]
 | cons x t ih =>
  intro i acc a b h1 h2 h3 h4
  rw [List.length_cons] at h2
  rw [Z9K] at h4
  obtain ⟨q1,h4⟩:=h4.split
  have hx:=h1 x List.mem_cons_self
  have l1:=q1.le
  refine Ev.step (fun _ => rfl) ?_
  simp only [Zt.l0,Z1l.f,Z5 (show i≤9223372036854775806 by omega)]
  refine Ev.pos (by simp only [List.length_cons];omega) (Ev.neg (by simp) (Ev.bind (a:=(x1,x2,x3,acc++[x],l4,s,a + ((varL x.toNat).length:Int),false)) ?_ ?_))
  ·exact Ev.bind (Ev.eq (ZV s a false (by omega)) (Z2L q1 hx.1 (by omega))) (Ev.pos (by omega) (Ev.now _))
  ·have:=ih (i + 1) (acc++[x]) _ b (fun y hy => h1 y (List.mem_cons_of_mem _ hy)) (by omega) (by simp [h3]) h4
   rw [show i + 1 + t.length = i + (x::t).length by simp;omega] at this
   exact Ev.eq this (by simp)
theorem Z7b (s:ByteArray) (hs:s.size≤1000000):To (fun k => Z0U.f k s) (MDec s):=by
 unfold Z0U.f
 refine To.bind (To.ev (P:=fun r => r = Z1R s) (Z6i s (by omega)) rfl) (fun r e => ?_)
 subst e
 refine To.ite (fun hok => ?_) (fun _ => To.now (Or.inl rfl))
 cases hu:Z1R s with
 | mk t b =>
 rw [hu] at hok
 obtain rfl:b = true:=hok
 dsimp only
 have hz:=(Z4y hu).2
 refine To.bind (P:=fun r => r.1 = t∧r.2.2.2.1.length≤1048576∧r.2.2.2.2 = (0,0,0,[])∧(0≤r.2.1∧r.2.1≤(t.size:Int))∧(r.2.2.1 = false→At t 0 (varL r.2.2.2.1.length++vl r.2.2.2.1) r.2.1)) ?_ (fun r p => ?_)
 ·unfold Zs.f
  refine To.bind (To.ev (P:=fun r => r = Z0e t 0 false) (ZV t 0 false (by omega)) rfl) (fun r e => ?_)
  subst e
  simp only [Z12]
  have hp:=Z0E (s:=t) (a:=0) (bad:=false) (by omega) (by omega)
  have hn:=Z3J t 0 false
  cases hb:(Z0e t 0 false).2.2.2
  ·refine To.mono (eachM1_loop t (by omega) (Z0e t 0 false).1 0 0 0 [] (t.size + 1) 0 (Z0e t 0 false).2.2.1 false [] hp.1 hp.2 (by simp;omega) (by simp;omega) (by omega) (by omega) hn.2) (fun r q => ⟨q.1,q.2.1,q.2.2.1,q.2.2.2.1,fun h => ?_⟩)
   obtain ⟨rest,e1,e2,e3⟩:=q.2.2.2.2 h
   have e3:=e3 hn.1
   obtain ⟨-,m1,-⟩:=Z4G hb
   rw [e1,List.nil_append]
   rw [show rest.length = (Z0e t 0 false).1.toNat by omega]
   exact m1.trans e2
  ·exact To.mono (Z6R _ _ _ _ _ _ _ _ _) (fun r q => by subst q;exact ⟨rfl,by simp,rfl,hp,fun h => by cases h⟩)
 obtain ⟨s',a1,b1,segs,y1,y2,y3,y4⟩:=r
 obtain ⟨p1,p2,p3,p4,p5⟩:=p
 dsimp only at p1 p2 p3 p4 p5 ⊢
 subst p1
 obtain ⟨rfl,rfl,rfl,rfl⟩:y1 = 0∧y2 = 0∧y3 = 0∧y4 = []:=by simpa using p3
 have num:∀ (a:Int) (b:Bool),0≤a→a≤(s'.size:Int)→To (fun k => ZK.f k s' a b) (fun r => r.2.1 = s'∧(0≤r.2.2.1∧r.2.2.1≤(s'.size:Int))∧(r.2.2.2 = false→b = false∧At s' a (varL r.1.toNat) r.2.2.1)):=fun a b h0 h1 =>
  To.ev (ZV s' a b (by omega)) ⟨Z12 _ _ _,Z0E h0 h1,fun h => by obtain ⟨q1,q2,-⟩:=Z4G h;exact ⟨q1,q2⟩⟩
 refine To.bind (num a1 b1 p4.1 p4.2) (fun r2 q2 => ?_)
 obtain ⟨nx,s2,a2,b2⟩:=r2
 obtain ⟨h2,q2,q2'⟩:=q2
 dsimp only at h2
 subst h2
 refine To.bind (num a2 b2 q2.1 q2.2) (fun r3 q3 => ?_)
 obtain ⟨ba,s3,a3,b3⟩:=r3
 obtain ⟨h3,q3,q3'⟩:=q3
 dsimp only at h3
 subst h3
 refine To.bind (num a3 b3 q3.1 q3.2) (fun r4 q4 => ?_)
 obtain ⟨bt',s4,a4,b4⟩:=r4
 obtain ⟨h4,q4,q4'⟩:=q4
 dsimp only at h4
 subst h4
 dsimp only at q2 q2' q3 q3' q4 q4' ⊢
 refine To.bind (P:=fun r => r.1 = s4∧r.2.2.2.2.2.2.1.length≤1048576∧(r.2.2.2.1 = nx∧r.2.2.2.2.1 = ba∧r.2.2.2.2.2.1 = bt'∧r.2.2.2.2.2.2.2 = segs)∧(0≤r.2.1∧r.2.1≤(s4.size:Int))∧(r.2.2.1 = false→b4 = false∧At s4 a4 (varL r.2.2.2.2.2.2.1.length++vl r.2.2.2.2.2.2.1) r.2.1)) ?_ (fun r p => ?_)
 ·unfold Zt.f
  refine To.bind (To.ev (P:=fun r => r = Z0e s4 a4 b4) (ZV s4 a4 b4 (by omega)) rfl) (fun r e => ?_)
  subst e
  simp only [Z12]
  have hp:=Z0E (s:=s4) (a:=a4) (bad:=b4) q4.1 q4.2
  have hn:=Z3J s4 a4 b4
  cases hb:(Z0e s4 a4 b4).2.2.2
  ·refine To.mono (eachM2_loop s4 (by omega) (Z0e s4 a4 b4).1 nx ba bt' segs (s4.size + 1) 0 (Z0e s4 a4 b4).2.2.1 false [] hp.1 hp.2 (by simp;omega) (by simp;omega) (by omega) (by omega) hn.2) (fun r q => ⟨q.1,q.2.1,q.2.2.1,q.2.2.2.1,fun h => ?_⟩)
   obtain ⟨rest,e1,e2,e3⟩:=q.2.2.2.2 h
   have e3:=e3 hn.1
   obtain ⟨hb4,m1,-⟩:=Z4G hb
   refine ⟨hb4,?_⟩
   rw [e1,List.nil_append]
   rw [show rest.length = (Z0e s4 a4 b4).1.toNat by omega]
   exact m1.trans e2
  ·exact To.mono (Z73 _ _ _ _ _ _ _ _ _) (fun r q => by subst q;exact ⟨rfl,by simp,⟨rfl,rfl,rfl,rfl⟩,hp,fun h => by cases h⟩)
 obtain ⟨s5,a5,b5,z1,z2,z3,cf,z4⟩:=r
 obtain ⟨p1',p2',p3',p4',p5'⟩:=p
 dsimp only at p1' p2' p3' p4' p5' ⊢
 obtain ⟨rfl,rfl,rfl,rfl⟩:=p3'
 subst p1'
 refine To.call (P:=fun z => z = ((!b5 && a5 == (s5.size:Int)),s5,a5,b5)) ⟨_,Z5h _ _ _,rfl⟩ (fun z hz => ?_)
 subst hz
 refine To.ite (fun hd => To.bind (To.ev (P:=fun z => z = manOk z4 z1 z2 z3 cf) (Z4j z4 z1 z2 z3 cf (by omega) (by omega)) rfl) (fun z hz => ?_)) (fun _ => To.now (Or.inl rfl))
 subst hz
 refine To.ite (fun hk => To.now (Or.inr ⟨_,_,_,_,_,rfl,?_⟩)) (fun _ => To.now (Or.inl rfl))
 simp only [Bool.and_eq_true,Bool.not_eq_true',beq_iff_eq] at hd
 obtain ⟨e4,w5⟩:=p5' hd.1
 obtain ⟨e3,w4⟩:=q4' e4
 obtain ⟨e2,w3⟩:=q3' e3
 obtain ⟨e1,w2⟩:=q2' e2
 have w1:=p5 e1
 have hw:=w1.trans (w2.trans (w3.trans (w4.trans w5)))
 rw [hd.2] at hw
 exact man_make hk hu (by rw [hw.all];simp only [List.append_assoc])
theorem Z6n (s:ByteArray) (hs:s.size≤1048576) (segs:List Int) (nx ba bt:Int) (conf:List Int) (h:Z0R segs nx ba bt conf = (s,true)):Ev (fun k => Z0U.f k s) (segs,nx,ba,bt,conf,true):=by
 obtain ⟨hk,t,hu,ht,hb⟩:=ZbX h
 obtain ⟨b1,b2,b3,b4,b5,b6,b7⟩:=ZY hk
 have hw:=At.whole t
 rw [hb] at hw
 obtain ⟨q1,hw⟩:=hw.split
 obtain ⟨q2,hw⟩:=hw.split
 obtain ⟨q3,hw⟩:=hw.split
 obtain ⟨q4,hw⟩:=hw.split
 obtain ⟨q5,hw⟩:=hw.split
 obtain ⟨q6,q7⟩:=hw.split
 unfold Z0U.f Zs.f Zt.f
 refine Ev.bind (Ev.eq (Z6i s hs) hu) (Ev.pos rfl (Ev.bind (a:=(t,_,false,segs,0,0,0,[])) ?_ (Ev.bind (Ev.eq (ZV t _ false (by omega)) (Z2L q3 b2.1 (by omega))) (Ev.bind (Ev.eq (ZV t _ false (by omega)) (Z2L q4 b3.1 (by omega))) (Ev.bind (Ev.eq (ZV t _ false (by omega)) (Z2L q5 b4.1 (by omega))) (Ev.bind (a:=(t,(t.size:Int),false,nx,ba,bt,conf,segs)) ?_ ?_))))))
 ·refine Ev.bind (Ev.eq (ZV t 0 false (by omega)) (Z1Z q1 (by omega))) ?_
  have:=eachM1_fwd t (by omega) 0 0 0 [] segs 0 [] _ _ (fun x hx => by have:=b6 x hx;omega) (by omega) rfl q2
  rw [Nat.zero_add] at this
  exact this
 ·refine Ev.bind (Ev.eq (ZV t _ false (by omega)) (Z1Z q6 (by omega))) ?_
  have:=eachM2_fwd t (by omega) nx ba bt segs conf 0 [] _ _ (fun x hx => by have:=b7 x hx;omega) (by omega) rfl q7
  rw [Nat.zero_add] at this
  exact this
 ·refine Ev.call (Z5h _ _ _) (Ev.pos (by simp) (Ev.bind (Ev.eq (Z4j segs nx ba bt conf (by omega) (by omega)) hk) (Ev.pos rfl (Ev.now _))))
def RM (s:ByteArray) (r:Man):Prop:=Ev (fun k => Z3.f k s) r∧Ev (fun k => Z0U.f k s) r∧MDec s r
theorem Z9n (s:ByteArray) (hs:s.size≤1000000):∃ r,RM s r:=by
 by_cases hex:∃ segs nx ba bt cf,Z0R segs nx ba bt cf = (s,true)
 ·obtain ⟨segs,nx,ba,bt,cf,h⟩:=hex
  exact ⟨_,Z4q s (by omega) _ _ _ _ _ h,Z6n s (by omega) _ _ _ _ _ h,Or.inr ⟨_,_,_,_,_,rfl,h⟩⟩
 ·obtain ⟨r,hr,p⟩:=Z7e s (by omega)
  obtain ⟨r',hr',p'⟩:=Z7b s hs
  rcases p with rfl | ⟨_,_,_,_,_,-,h⟩
  ·rcases p' with rfl | ⟨_,_,_,_,_,-,h⟩
   ·exact ⟨_,hr,hr',Or.inl rfl⟩
   ·exact absurd ⟨_,_,_,_,_,h⟩ hex
  ·exact absurd ⟨_,_,_,_,_,h⟩ hex
def mul10 (a:Nat) (x:Int):Nat:=10 * a + (x.toNat - 48)
def Z7Z (a:Nat) (l:List Int):Nat:=l.foldl mul10 a
theorem Zd0 (a:Nat):Z7Z a [] = a:=rfl
theorem fold10_cons (a:Nat) (x:Int) (t:List Int):Z7Z a (x::t) = Z7Z (mul10 a x) t:=by unfold Z7Z;rw [List.foldl_cons]
theorem fold10_snoc (l:List Int) (a:Nat) (x:Int):Z7Z a (l++[x]) = mul10 (Z7Z a l) x:=by unfold Z7Z;rw [List.foldl_append];rfl
theorem mul10_dig (a d:Nat):mul10 a ((48 + d:Nat):Int) = 10 * a + d:=by unfold mul10;rw [Int.toNat_natCast];omega
theorem Z3R {n:Nat} (h:¬ n < 10):bytesOf (digT n) = bytesOf (digT (n / 10))++[((48 + n % 10:Nat):Int)]:=by
 have:=digT_big h ByteArray.empty
 rw [ByteArray.append_empty,ByteArray.append_empty] at this
 rw [this,Z07,Z1z _ (by intro x hx;simp at hx;omega)]
theorem Z3e {n:Nat} (h:n < 10):bytesOf (digT n) = [((48 + n:Nat):Int)]:=by
 rw [ZcX h,Z1z _ (by intro x hx;simp at hx;omega),Nat.mod_eq_of_lt h]
theorem Zb1 (n:Nat):Z7Z 0 (bytesOf (digT n)) = n:=by
 induction n using Nat.strongRecOn with
 | ind n ih =>
  by_cases h:n < 10
  ·rw [Z3e h,fold10_cons,Zd0,mul10_dig];omega
  ·rw [Z3R h,fold10_snoc,ih _ (by omega),mul10_dig];omega
theorem digT_digits (n:Nat):∀ x∈bytesOf (digT n),48≤x∧x≤57:=by
 induction n using Nat.strongRecOn with
 | ind n ih =>
  intro x hx
  by_cases h:n < 10
  ·rw [Z3e h] at hx;simp at hx;omega
  ·rw [Z3R h] at hx
   rcases List.mem_append.1 hx with hx | hx
   ·exact ih _ (by omega) x hx
   ·simp at hx;omega
theorem Z5K {n:Nat} (h:n≤999):1≤(digT n).size∧(digT n).size≤3:=by
 rw [←Ze]
 by_cases h1:n < 10
 ·rw [Z3e h1];simp
 by_cases h2:n / 10 < 10
 ·rw [Z3R h1,Z3e h2];simp
 ·rw [Z3R h1,Z3R h2,Z3e (by omega)];simp
theorem digT_inj {a b:Nat} (h:digT a = digT b):a = b:=by rw [←Zb1 a,h,Zb1]
theorem ZdV {i:Nat} (h:i≤10):10 ^ i≤10000000000:=Nat.pow_le_pow_right (n:=10) (by omega) h
theorem Z4M (s:ByteArray) (hs:s.size≤10) {n:Nat} {x:Int} {t:List Int} (h:(bytesOf s).drop n = x::t) {a:Nat} (ha:a < 10 ^ n) (hx:48≤x∧x≤57) {r:Int×Bool} (hr:Ev (fun k => ZH.l0 k s ((mul10 a x:Nat):Int) ((n + 1:Nat):Int)) r):Ev (fun k => ZH.l0 k s (a:Int) (n:Int)) r:=by
 obtain ⟨h1,h2,h3,-⟩:=Z3C h
 have:=ZdV (show n≤10 by omega)
 refine Ev.step (fun _ => rfl) ?_
 simp only [ZH.l0,h2,Z5 (show n≤9223372036854775806 by omega)]
 rw [Z9 (n:=10 * (a:Int)) (by omega) (by omega),Z9 (n:=x) (by omega) (by omega),Z9 (n:=10 * (a:Int) + x) (by omega) (by omega),Z9 (n:=10 * (a:Int) + x - 48) (by omega) (by omega)]
 refine Ev.pos (by omega) (Ev.pos (by omega) (Ev.neg (by omega) (Ev.neg (by omega) ?_)))
 rw [show 10 * (a:Int) + x - 48 = ((mul10 a x:Nat):Int) by unfold mul10;omega]
 exact hr
theorem Z6G (s:ByteArray) (hs:s.size≤10):∀ (rest:List Int) (n a:Nat),(bytesOf s).drop n = rest→a < 10 ^ n→n≤10→To (fun k => ZH.l0 k s (a:Int) (n:Int)) (fun _ => True):=by
 intro rest
 induction rest with
 | nil =>
  intro n a h ha hn
  have:=Z3V h
  have:=ZdV hn
  refine To.step (fun _ => rfl) ?_
  simp only [ZH.l0]
  refine To.neg (by omega) (To.ite (fun _ => To.now trivial) (fun hc => To.bind (To.ev (P:=fun _ => True) (Z4P a (by omega)) trivial) (fun z _ => To.ite (fun _ => To.now trivial) (fun _ => To.now trivial))))
 | cons x t ih =>
  intro n a h ha hn
  obtain ⟨h1,h2,h3,h4⟩:=Z3C h
  have hp:=ZdV hn
  by_cases hx:48≤x∧x≤57
  ·obtain ⟨r,hr,p⟩:=ih (n + 1) (mul10 a x) h3 (by rw [Nat.pow_succ];unfold mul10;omega) (by omega)
   exact To.ev (Z4M s hs h ha hx hr) trivial
  ·refine To.step (fun _ => rfl) ?_
   simp only [ZH.l0,h2]
   refine To.pos (by omega) (To.pos (by omega) (To.ite (fun _ => To.now trivial) (fun _ => To.pos (by omega) (To.now trivial))))
theorem Z7I (s:ByteArray):To (fun k => ZH.f k s) (fun _ => True):=by
 unfold ZH.f
 exact To.ite (fun _ => To.now trivial) (fun hc => Z6G s (by omega) _ 0 0 rfl (by simp) (by omega))
theorem Z7a (n:Nat) (hn:n≤999) (s:ByteArray) (hs:s = digT n):∀ (rest:List Int) (i a:Nat),(bytesOf s).drop i = rest→a < 10 ^ i→i≤10→Z7Z a rest = n→(∀ x∈rest,48≤x∧x≤57)→Ev (fun k => ZH.l0 k s (a:Int) (i:Int)) ((n:Int),true):=by
 have h3:=Z5K hn
 intro rest
 induction rest with
 | nil =>
  intro i a h ha hi hf hd
  have:=Z3V h
  rw [Zd0] at hf
  subst hf
  refine Ev.step (fun _ => rfl) ?_
  simp only [ZH.l0]
  refine Ev.neg (by omega) (Ev.neg (by omega) (Ev.bind (Z4P a (by omega)) (Ev.pos (by rw [hs]) (Ev.now _))))
 | cons x t ih =>
  intro i a h ha hi hf hd
  have hx:=hd x List.mem_cons_self
  obtain ⟨h1,h2,h4,-⟩:=Z3C h
  rw [←hs] at h3
  exact Z4M s (by omega) h ha hx (ih (i + 1) _ h4 (by rw [Nat.pow_succ];unfold mul10;omega) (by omega) hf (fun y hy => hd y (List.mem_cons_of_mem _ hy)))
theorem Z6w (n:Nat) (hn:n≤999):Ev (fun k => ZH.f k (digT n)) ((n:Int),true):=by
 have h3:=Z5K hn
 unfold ZH.f
 exact Ev.neg (by omega) (Z7a n hn _ rfl _ 0 0 rfl (by simp) (by omega) (by rw [List.drop_zero,Zb1]) (by rw [List.drop_zero];exact digT_digits n))
theorem Z8I {n:Nat} (h:n≤999):segT (n:Int) = (⟨#[103]⟩:ByteArray)++digT n:=by
 unfold segT
 rw [if_pos (Zr.2 (by omega)),Int.toNat_natCast]
theorem Zbl {n:Nat} (h:n≤999):(segT (n:Int)).size = 1 + (digT n).size:=by rw [Z8I h,size_append];rfl
theorem Z83 {n:Nat} (h:n≤999):(segT (n:Int)).extract 1 (segT (n:Int)).size = digT n:=Z0N (by
 rw [Z5x,Z8I h,Z07]
 rfl)
theorem ZdQ {a b:Nat} (ha:a≤999) (hb:b≤999) (h:segT (a:Int) = segT (b:Int)):a = b:=by
 have h1:=Z83 ha
 rw [h,Z83 hb] at h1
 exact (digT_inj h1).symm
theorem segT_out {n:Int} (h:¬ (0≤n∧n≤999)):segT n = ⟨#[]⟩:=by unfold segT;rw [if_neg (fun e => h (Zr.1 e))]
def Zdu (name:ByteArray):Option Nat:=(List.range 1000).find? fun n:Nat => decide (name = segT (n:Int))
theorem Zae {name:ByteArray} {n:Nat} (h:Zdu name = some n):n≤999∧name = segT (n:Int):=by
 have h1:=List.find?_some (p:=fun n:Nat => decide (name = segT (n:Int))) (l:=List.range 1000) h
 have h2:=List.mem_range.1 (List.mem_of_find?_eq_some (p:=fun n:Nat => decide (name = segT (n:Int))) (l:=List.range 1000) h)
 exact ⟨by omega,of_decide_eq_true h1⟩
theorem segFind_none {name:ByteArray} (h:Zdu name = none) (n:Nat) (hn:n≤999):name≠segT (n:Int):=fun e => by
 have:=List.find?_eq_none (p:=fun n:Nat => decide (name = segT (n:Int))) (l:=List.range 1000) |>.1 h n (List.mem_range.2 (by omega))
 exact this (decide_eq_true e)
def segNo (name:ByteArray):Int:=match Zdu name with
 | some n => (n:Int)
 | none => -1
theorem Z4x (name:ByteArray):(∃ n:Nat,n≤999∧name = segT (n:Int)∧segNo name = n)∨(segNo name = -1∧∀ n:Nat,n≤999→name≠segT (n:Int)):=by
 unfold segNo
 cases hf:Zdu name with
 | some m => exact .inl ⟨m,(Zae hf).1,(Zae hf).2,rfl⟩
 | none => exact .inr ⟨rfl,segFind_none hf⟩
theorem segNo_yes {n:Nat} (h:n≤999):segNo (segT (n:Int)) = n:=by
 rcases Z4x (segT (n:Int)) with ⟨m,hm,e,e2⟩ | ⟨-,hno⟩
 ·rw [e2,ZdQ h hm e]
 ·exact absurd rfl (hno n h)
theorem ZcD (name:ByteArray) (hs:name.size≤1000000):Ev (fun k => Z3Y.f k name) (segNo name):=by
 unfold Z3Y.f
 rcases Z4x name with ⟨n,hn,rfl,e⟩ | ⟨e,hno⟩
 ·have h1:=Zbl hn
  have h3:=Z5K hn
  rw [e,Z83 hn]
  refine Ev.neg (by omega) (Ev.pos (by omega) (Ev.bind (Z6w n hn) (Ev.pos rfl (Ev.bind (Z19 n) (Ev.pos rfl (Ev.now _))))))
 ·rw [e]
  refine Ev.ite (fun _ => Ev.now _) (fun hc => Ev.pos (by omega) ?_)
  obtain ⟨r,hr,-⟩:=Z7I (name.extract 1 name.size)
  refine Ev.bind hr (Ev.ite (fun _ => Ev.bind (Z19 r.1) (Ev.ite (fun h => ?_) (fun _ => Ev.now _))) (fun _ => Ev.now _))
  exfalso
  have h:=toList_inj.1 h
  by_cases hr1:0≤r.1∧r.1≤999
  ·obtain ⟨m,hm⟩:=Int.eq_ofNat_of_zero_le hr1.1
   rw [hm] at h
   exact hno m (by omega) h.symm
  ·rw [segT_out hr1] at h
   rw [←h] at hc
   exact hc (by decide)
theorem Zad (b:UInt8) (d:Nat) (hd:Lib.digitVal b = some d):∀ (l:List UInt8) (acc a:Nat),Lib.decFrom acc l = some a→Lib.decFrom acc (l++[b]) = some (a * 10 + d)
 | [],acc,a,h => by
  simp only [Lib.decFrom,Option.some.injEq] at h
  subst h
  simp [Lib.decFrom,hd]
 | c::t,acc,a,h => by
  simp only [Lib.decFrom,List.cons_append] at h ⊢
  cases hc:Lib.digitVal c with
  | none => rw [hc] at h;cases h
  | some e => rw [hc] at h;exact Zad b d hd t _ a h
theorem Za8 {n:Nat} (h:n < 10):Lib.digitVal (UInt8.ofNat (48 + n)) = some n:=by
 unfold Lib.digitVal
 have e:(UInt8.ofNat (48 + n)).toNat = 48 + n:=by rw [UInt8.toNat_ofNat'];omega
 rw [e,if_pos (by omega)]
 congr 1;omega
theorem Zco (n:Nat):Lib.decFrom 0 (Lib.decDigits n) = some n:=by
 induction n using Nat.strongRecOn with
 | ind n ih =>
  by_cases h:n < 10
  ·rw [Z4O h];simp only [Lib.decFrom,Za8 h,Nat.zero_mul,Nat.zero_add]
  ·rw [Z6V h,Zad _ _ (Za8 (by omega)) _ _ _ (ih _ (by omega))]
   congr 1;omega
theorem digits_head (n:Nat):∃ b t,Lib.decDigits n = b::t∧48≤b.toNat∧b.toNat≤57:=by
 induction n using Nat.strongRecOn with
 | ind n ih =>
  by_cases h:n < 10
  ·refine ⟨_,[],Z4O h,?_⟩
   rw [UInt8.toNat_ofNat'];omega
  ·obtain ⟨b,t,e,hb⟩:=ih (n / 10) (by omega)
   exact ⟨b,t++[UInt8.ofNat (48 + n % 10)],by rw [Z6V h,e];rfl,hb⟩
theorem atoi_digits (n:Nat):Lib.atoi (Lib.decDigits n) = some (n:Int):=by
 obtain ⟨b,t,e,h1,h2⟩:=digits_head n
 have hd:=Zco n
 rw [e] at hd ⊢
 have n1:(b == 45) = false:=by
  rw [beq_eq_false_iff_ne]
  intro e
  subst e
  simp at h1
 have n2:(b == 43) = false:=by
  rw [beq_eq_false_iff_ne]
  intro e
  subst e
  simp at h1
 simp only [Lib.atoi,n1,n2,Bool.false_eq_true,if_false,Lib.decNat,List.isEmpty_cons,hd,Option.map_some]
theorem Z4N (s:ByteArray) (hs:s.size≤18):∃ r,Z1s.f s = some r:=by
 unfold Z1s.f strconv_Atoi.f atoiO
 rw [if_pos hs]
 cases h:Lib.atoi s.data.toList with
 | none => exact ⟨_,rfl⟩
 | some n =>
  have hb:=Lib.atoi_bound h (by rw [Z5g];omega)
  dsimp only
  rw [Option.bind_some,if_pos rfl]
  unfold impl_Decimal.f
  rw [if_pos (by omega),if_pos (by omega),Option.bind_some]
  split
  ·rw [Z0j,Option.bind_some]
   split
   ·exact ⟨_,rfl⟩
   ·exact ⟨_,rfl⟩
  ·exact ⟨_,rfl⟩
theorem Z6p (n:Nat) (hn:n≤999):Z1s.f (digT n) = some ((n:Int),true):=by
 have h3:=Z5K hn
 unfold Z1s.f strconv_Atoi.f atoiO
 rw [if_pos (by omega)]
 have:Lib.atoi (digT n).data.toList = some (n:Int):=by
  rw [show (digT n).data.toList = Lib.decDigits n from rfl,atoi_digits]
 rw [this]
 dsimp only
 rw [Option.bind_some,if_pos rfl]
 unfold impl_Decimal.f
 rw [if_pos (by omega),if_pos (by omega),Option.bind_some,itoa_nat,if_pos rfl,Z0j,Option.bind_some,if_pos (Zr.2 (by omega))]
theorem cutG (name:ByteArray):Z1L.f name (⟨#[103]⟩:ByteArray) = some (if name.extract 0 1 = ⟨#[103]⟩ then (name.extract 1 name.size,true) else (name,false)):=by
 have hz:(⟨#[103]⟩:ByteArray).size = 1:=rfl
 unfold Z1L.f Z0y.f Z0x.f
 by_cases h:name.size≥1
 ·rw [hz,if_pos (by omega),if_pos (by omega),if_pos (by omega),Option.bind_some]
  by_cases e:name.extract 0 1 = ⟨#[103]⟩
  ·rw [if_pos e]
   rw [if_pos (by show ((name.extract 0 1).toList == _) = true;rw [e];simp),if_pos (by omega),if_pos (by omega)]
   rfl
  ·rw [if_neg e]
   rw [if_neg (by show ¬ ((name.extract 0 1).toList == _) = true;rw [beq_iff_eq,toList_inj];exact e)]
   rfl
 ·have hn:name.size = 0:=by omega
  have e:¬ name.extract 0 1 = ⟨#[103]⟩:=by
   intro e
   have:(name.extract 0 1).size = 1:=by rw [e];rfl
   rw [ByteArray.size_extract] at this
   omega
  rw [hz,if_neg (by omega),Option.bind_some,if_neg e]
  rfl
theorem Z9t (name:ByteArray) (hs:name.size≤18):Z2N.f name = some (decide (0≤segNo name)):=by
 unfold Z2N.f
 rw [cutG,Option.bind_some]
 rcases Z4x name with ⟨n,hn,rfl,e⟩ | ⟨e,hno⟩
 ·have hx:(segT (n:Int)).extract 0 1 = ⟨#[103]⟩:=Z0N (by
   rw [Z0M,Z8I hn,Z07];rfl)
  rw [if_pos hx,Z83 hn]
  dsimp only
  rw [Z6p n hn,Option.bind_some,if_pos rfl,if_pos rfl,Z0T,Option.bind_some,e]
  simp
 ·rw [e]
  have hd:decide ((0:Int)≤-1) = false:=rfl
  rw [hd]
  split
  ·rename_i hx
   have hz:name.size≥1:=by
    have:(name.extract 0 1).size = 1:=by rw [hx];rfl
    rw [ByteArray.size_extract] at this
    omega
   dsimp only
   obtain ⟨r,hr⟩:=Z4N (name.extract 1 name.size) (by rw [ByteArray.size_extract];omega)
   rw [hr,Option.bind_some,if_pos rfl]
   split
   ·rw [Z0T,Option.bind_some]
    refine congrArg some ?_
    rw [beq_eq_false_iff_ne]
    intro h
    have h:=toList_inj.1 h
    by_cases hr1:0≤r.1∧r.1≤999
    ·obtain ⟨m,hm⟩:=Int.eq_ofNat_of_zero_le hr1.1
     rw [hm] at h
     exact hno m (by omega) h.symm
    ·rw [segT_out hr1] at h
     rw [←h] at hz
     exact absurd hz (by decide)
   ·rfl
  ·dsimp only
   obtain ⟨r,hr⟩:=Z4N name hs
   rw [hr,Option.bind_some,if_neg (by simp)]
theorem Zcl (l:List S122) (hd:ZT l = true) (key:ByteArray):Ev (fun k => Z44.f k l key) (Zn key l,stands (Z8 key) l):=by
 obtain ⟨hl,hu⟩:=Z0z hd
 unfold Z44.f Zn
 refine Ev.bind (Z4i l (by omega) hu key) (Ev.bind (Z2C l (by omega)) ?_)
 rw [hd]
 refine Ev.pos rfl ?_
 unfold Z6O
 cases hs:stands (Z8 key) l
 ·exact Ev.pos (by simp) (Ev.done (by simp))
 ·obtain ⟨x,hx,-⟩:=Z4I hs
  obtain ⟨h1,-⟩:=List.getElem?_eq_some_iff.1 hx
  rw [if_pos rfl,if_pos rfl]
  exact Ev.neg (by omega) (Ev.pos (by omega) (Ev.pos (by omega) (Ev.now _)))
theorem ZbY:∀ (l:List S122) (p:Option ByteArray),Z2o p l = true→∀ x∈l,(1≤x.f0.size∧x.f0.size≤12)∧x.f1.size≤20000
 | [],_,_,x,hx => by cases hx
 | y::t,p,h,x,hx => by
  simp only [Z2o,Bool.and_eq_true,decide_eq_true_iff] at h
  obtain ⟨h1,h2,-,h4⟩:=h
  rcases List.mem_cons.1 hx with rfl | hx
  ·have:=Zr.1 h1;omega
  ·exact ZbY t _ h4 x hx
theorem Z52 {l:List S122} (h:ZT l = true):∀ x∈l,(1≤x.f0.size∧x.f0.size≤12)∧x.f1.size≤20000:=by
 simp only [ZT,Bool.and_eq_true] at h
 exact ZbY l none h.2
theorem Z3b {l:List S122} (h:ZT l = true) (key:ByteArray):(Zn key l).size≤20000:=by
 unfold Zn
 split
 ·rename_i hs
  obtain ⟨x,hx,-⟩:=Z4I hs
  obtain ⟨h1,h2⟩:=List.getElem?_eq_some_iff.1 hx
  rw [Z9B h1] at hx
  injection hx with hx
  rw [hx]
  exact (Z52 h x (List.mem_of_getElem? (by rw [List.getElem?_eq_getElem h1,h2]))).2
 ·exact Nat.zero_le _
theorem idxF_loop (s0 s1:ByteArray) (xs:List Int) (hx:xs.length≤1048576):∀ (rest:List Int) (n:Nat),xs.drop n = rest→To (fun k => ZB.l0 k xs (xs.length:Int) (n:Int) s0 s1) (fun r => r.2 = (s0,s1)∧decide (r.1≥0) = rest.any fun x => decide (segT x = s0)):=by
 intro rest
 induction rest with
 | nil =>
  intro n h
  have:=ZE h
  refine To.step (fun _ => rfl) ?_
  simp only [ZB.l0]
  exact To.neg (by omega) (To.now ⟨rfl,by simp⟩)
 | cons x t ih =>
  intro n h
  obtain ⟨h1,-,h3⟩:=Zi h
  refine To.step (fun _ => rfl) ?_
  simp only [ZB.l0,Z3c h,Z5 (show n≤9223372036854775806 by omega)]
  refine To.pos (by omega) (To.pos (by omega) (To.pos (by omega) (To.call (P:=fun r => r = ((segT x).toList == s0.toList,s0,s1)) ⟨_,by unfold Z2v.f;rw [Z0T];rfl,rfl⟩ (fun r e => ?_))))
  subst e
  dsimp only
  refine To.ite (fun hc => To.now ⟨rfl,?_⟩) (fun hc => To.mono (ih (n + 1) h3) (fun r q => ⟨q.1,by rw [q.2,List.any_cons,decide_eq_false (fun e => hc (by rw [e];simp)),Bool.false_or]⟩))
  rw [List.any_cons,decide_eq_true (toList_inj.1 (by simpa using hc)),Bool.true_or,decide_eq_true (by dsimp only;omega)]
theorem containsF_ev (s0 s1:ByteArray) (xs:List Int) (hx:xs.length≤1048576):Ev (fun k => Z0v.f k xs s0 s1) (xs.any (fun x => decide (segT x = s0)),s0,s1):=by
 obtain ⟨r,hr,h1,h2⟩:=idxF_loop s0 s1 xs hx xs 0 rfl
 unfold Z0v.f ZB.f
 refine Ev.bind hr (Ev.done ?_)
 rw [h2,h1]
def dropB (segs:List Int) (f:S122):Bool:=decide (0≤segNo f.f0) && !segs.contains (segNo f.f0)
def Ze2 (f:S122):S119:=⟨4,f.f0,⟨#[]⟩,⟨#[]⟩⟩
def Z2a (segs:List Int) (l:List S122):List S119:=(l.filter (dropB segs)).map Ze2
theorem Z48 (segs:List Int) (x:S122) (t:List S122):Z2a segs (x::t) = (if dropB segs x = true then [Ze2 x] else [])++Z2a segs t:=by
 unfold Z2a
 rw [List.filter_cons]
 split <;> rfl
theorem any_contains {segs:List Int} (hs:∀ x∈segs,0≤x∧x≤999) {name:ByteArray} (hn:0≤segNo name):(segs.any fun x => decide (segT x = name)) = segs.contains (segNo name):=by
 rcases Z4x name with ⟨n,h1,rfl,e⟩ | ⟨e,-⟩
 ·rw [e,Bool.eq_iff_iff,List.any_eq_true,List.contains_iff_mem]
  constructor
  ·rintro ⟨x,hx,hd⟩
   have hb:=hs x hx
   obtain ⟨m,rfl⟩:=Int.eq_ofNat_of_zero_le hb.1
   have:=ZdQ (by omega) h1 (of_decide_eq_true hd)
   rw [←this];exact hx
  ·intro h
   exact ⟨_,h,decide_eq_true rfl⟩
 ·omega
theorem Z5v (l:List S122) (hd:ZT l = true) (segs:List Int) (hl:segs.length≤8) (hs:∀ x∈segs,0≤x∧x≤999) (x1 x2 x3:Int) (x4:List Int):∀ (rest:List S122) (n:Nat) (acc:List S119),l.drop n = rest→acc.length≤n + 1→Ev (fun k => Z0r.l0 k acc l (l.length:Int) (n:Int) segs x1 x2 x3 x4) (acc++Z2a segs rest):=by
 have hll:=(Z0z hd).1
 intro rest
 induction rest with
 | nil =>
  intro n acc h ha
  have:=ZE h
  refine Ev.step (fun _ => rfl) ?_
  simp only [Z0r.l0]
  exact Ev.neg (by omega) (Ev.done (by simp [Z2a]))
 | cons x t ih =>
  intro n acc h ha
  obtain ⟨h1,-,h3⟩:=Zi h
  have hm:=Z52 hd x (List.mem_of_mem_drop (h ▸ List.mem_cons_self))
  refine Ev.step (fun _ => rfl) ?_
  simp only [Z0r.l0,Z2p h,Z5 (show n≤9223372036854775806 by omega)]
  refine Ev.pos (by omega) (Ev.pos (by omega) (Ev.pos (by omega) (Ev.call (Z9t x.f0 (by omega)) (Ev.ite (fun hc => ?_) (fun hc => ?_)))))
  ·have hc:=of_decide_eq_true hc
   refine Ev.bind (containsF_ev x.f0 x.f1 segs (by omega)) ?_
   rw [any_contains hs hc]
   refine Ev.ite (fun hi => Ev.eq (ih (n + 1) acc h3 (by omega)) ?_) (fun hi => Ev.pos (by omega) (Ev.eq (ih (n + 1) _ h3 (by simp;omega)) ?_))
   ·rw [Z48,if_neg (by unfold dropB;simp only [Bool.and_eq_true,Bool.not_eq_true'];intro e;dsimp only at hi;rw [hi] at e;exact absurd e.2 (by simp))];simp
   ·rw [Z48,if_pos (by unfold dropB;rw [decide_eq_true hc,Bool.true_and];dsimp only at hi;rw [Bool.eq_false_iff.2 hi];rfl)];simp [Ze2]
  ·refine Ev.eq (ih (n + 1) acc h3 (by omega)) ?_
   rw [Z48,if_neg (by unfold dropB;rw [Bool.eq_false_iff.2 hc];simp)];simp
def Z3t (l:List S122):List S119:=if stands (Z8 ⟨#[109,43]⟩) l = true then [⟨4,⟨#[109,43]⟩,⟨#[]⟩,⟨#[]⟩⟩] else []
theorem Zau (l:List S122) (hd:ZT l = true) (segs:List Int) (hl:segs.length≤8) (hs:∀ x∈segs,0≤x∧x≤999) (x1 x2 x3:Int) (x4:List Int):Ev (fun k => Z0r.f k l segs x1 x2 x3 x4) (Z3t l++Z2a segs l):=by
 unfold Z0r.f Z3t
 refine Ev.bind (Z2F l hd _) ?_
 cases h:stands (Z8 ⟨#[109,43]⟩) l
 ·exact Ev.neg (by simp) (Ev.eq (Z5v l hd segs hl hs x1 x2 x3 x4 l 0 [] rfl (by simp)) (by simp))
 ·exact Ev.pos rfl (Ev.pos (by omega) (Ev.eq (Z5v l hd segs hl hs x1 x2 x3 x4 l 0 _ rfl (by simp)) (by simp)))
def endOn (rb:ByteArray→Int×List S162×Bool):Int→List ByteArray→Int
 | a,[] => a
 | a,c::t => if (rb c).2.2 = true then endOn rb (a + ((frame c).1.size:Int)) t else a
def goodT (rb:ByteArray→Int×List S162×Bool):List ByteArray→List ByteArray
 | [] => []
 | c::t => if (rb c).2.2 = true then c::goodT rb t else []
def frSum:Int→List ByteArray→Int
 | a,[] => a
 | a,c::t => frSum (a + ((frame c).1.size:Int)) t
theorem Z8R (rb:ByteArray→Int×List S162×Bool):∀ (l:List ByteArray) (a:Int),endOn rb a l = frSum a (goodT rb l)
 | [],_ => rfl
 | c::t,a => by
  rw [endOn,goodT]
  split
  ·rw [frSum,Z8R rb t]
  ·rfl
theorem Zc4 (rb:ByteArray→Int×List S162×Bool):∀ (l:List ByteArray),(goodT rb l).length≤l.length∧∀ c∈goodT rb l,c∈l
 | [] => ⟨Nat.le_refl _,fun c h => h⟩
 | c::t => by
  have ih:=Zc4 rb t
  rw [goodT]
  split
  ·exact ⟨by simp only [List.length_cons];omega,fun d hd => by rcases List.mem_cons.1 hd with rfl | hd;exact List.mem_cons_self;exact List.mem_cons_of_mem _ (ih.2 d hd)⟩
  ·exact ⟨Nat.zero_le _,fun d hd => by cases hd⟩
theorem Za6 (rb:ByteArray→Int×List S162×Bool) (seg:Int):∀ (l:List ByteArray) (a:Int) (r:List S145×List ByteArray×Int),(Z1K rb seg a l r).2.1 = r.2.1++goodT rb l
 | [],a,r => by simp [Z1K,goodT]
 | c::t,a,r => by
  rw [Z1K,goodT]
  split
  ·rw [Za6 rb seg t];simp
  ·simp
theorem Z86:∀ (l:List ByteArray) (a:Int),a≤frSum a l∧frSum a l≤a + 9009 * (l.length:Int)
 | [],a => by simp [frSum]
 | c::t,a => by
  have:=Z4g c
  have:=Z86 t (a + ((frame c).1.size:Int))
  rw [frSum,List.length_cons]
  omega
theorem Z78 (rb:ByteArray→Int×List S162×Bool) (hrb:∀ c,c.size≤9000→RB c (rb c)) (list:List ByteArray) (hl:list.length≤20000) (hc:∀ c∈list,c.size≤9000):∀ (rest:List ByteArray) (n:Nat) (a:Int) (acc:List S113),list.drop n = rest→acc.length = n→0≤a→a≤9009 * (n:Int) →
  Ev (fun k => ZW.l0 k acc a list (list.length:Int) (n:Int)) (acc++Z3n rb a rest,endOn rb a rest):=by
 intro rest
 induction rest with
 | nil =>
  intro n a acc h ha h0 h1
  have:=ZE h
  refine Ev.step (fun _ => rfl) ?_
  simp only [ZW.l0]
  exact Ev.neg (by omega) (Ev.done (by simp [Z3n,endOn]))
 | cons x r ih =>
  intro n a acc h ha h0 h1
  obtain ⟨h2,-,h3⟩:=Zi h
  have hm:=hc x (List.mem_of_mem_drop (h ▸ List.mem_cons_self))
  have hf:=Z4g x
  obtain ⟨-,q2,q3⟩:=hrb x hm
  refine Ev.step (fun _ => rfl) ?_
  simp only [ZW.l0,Z6q h,Z5 (show n≤9223372036854775806 by omega)]
  refine Ev.pos (by omega) (Ev.pos (by omega) (Ev.pos (by omega) (Ev.bind q2 ?_)))
  rw [Z3n,endOn]
  refine Ev.ite (fun c => ?_) (fun c => Ev.done (by rw [if_neg c,if_neg c];simp))
  rw [if_pos c,if_pos c]
  refine Ev.bind (Z4W x (by omega)) ?_
  rw [Z9 (n:=a + ((frame x).1.size:Int)) (by omega) (by omega),Z9 (n:=a + ((frame x).1.size:Int) - (x.size:Int)) (by omega) (by omega)]
  refine Ev.pos (by omega) (Ev.eq (ih (n + 1) (a + ((frame x).1.size:Int)) _ h3 (by simp [ha]) (by omega) (by omega)) ?_)
  simp
theorem Z9F (rb:ByteArray→Int×List S162×Bool) (hrb:∀ c,c.size≤9000→RB c (rb c)) (s:ByteArray):Ev (fun k => ZW.f k s) (Z3n rb 0 (Z00 s).1,endOn rb 0 (Z00 s).1):=by
 unfold ZW.f
 obtain ⟨u1,u2⟩:=Z2g s
 exact Ev.bind (Z6k s) (Ev.eq (Z78 rb hrb _ u1 u2 _ 0 0 [] rfl rfl (by omega) (by omega)) (by simp))
theorem unfStep_six {s:ByteArray} {a b:Int} {c:ByteArray} (h:Z0H s a = some (c,b)):a + 6≤b:=by
 unfold Z0H at h
 split at h
 ·cases h
 split at h
 ·cases h
 split at h
 ·rename_i h1 h2 h3
  simp only [Option.some.injEq,Prod.mk.injEq] at h
  obtain ⟨rfl,rfl⟩:=h
  have hr:Zk s a = ((Zk s a).1,(Zk s a).2.1,true):=by
   have:(Zk s a).2.2 = true:=by cases hb:(Zk s a).2.2 <;> simp_all
   rw [←this]
  obtain ⟨p1,p2,p3,p4,p5,p6,-,-⟩:=Z2x hr
  have h4:=h3.1
  unfold frame at h4
  split at h4
  ·rename_i h5
   have h5:=Zr.1 h5
   rw [ByteArray.size_extract] at h5
   omega
  ·simp at h4
 ·cases h
theorem unfr_six (s:ByteArray):∀ (m:Nat) (acc:List ByteArray) (a:Int),6 * (acc.length:Int)≤a→6 * ((unfr s m acc a).1.length:Int)≤(unfr s m acc a).2
 | 0,acc,a,h => h
 | m + 1,acc,a,h => by
  rw [unfr]
  cases hs:Z0H s a with
  | none => exact h
  | some x =>
   obtain ⟨c,b⟩:=x
   have:=unfStep_six hs
   exact unfr_six s m (acc++[c]) b (by simp only [List.length_append,List.length_singleton];omega)
theorem ZaV (s:ByteArray):(Z00 s).1.length≤3334:=by
 unfold Z00
 split
 ·simp
 ·obtain ⟨⟨-,h1⟩,-,-⟩:=Z5V s (s.size + 1) [] 0 (by omega) (by omega) (by simp) (fun c hc => by cases hc)
  have:=unfr_six s (s.size + 1) [] 0 (by simp)
  omega
theorem Zdo (s:ByteArray):∀ (m:Nat) (acc:List ByteArray) (a:Int),∃ r,(unfr s m acc a).1 = acc++r
 | 0,acc,a => ⟨[],by rw [unfr,List.append_nil]⟩
 | m + 1,acc,a => by
  rw [unfr]
  cases Z0H s a with
  | none => exact ⟨[],by simp⟩
  | some x =>
   obtain ⟨r,hr⟩:=Zdo s m (acc++[x.1]) x.2
   exact ⟨x.1::r,by dsimp only;rw [hr];simp⟩
abbrev RBf:=ByteArray→Int×List S162×Bool
def Z0Z (rb:RBf) (d:List S122) (n:Int):List S145×List ByteArray×Int:=Z1K rb n 0 (Z00 (Zn (segT n) d)).1 ([],[],-1)
def Z2U (rb:RBf) (d:List S122) (n:Int):Int:=endOn rb 0 (Z00 (Zn (segT n) d)).1
theorem Zbg (rb:RBf) (hrb:∀ c,c.size≤9000→RB c (rb c)) (d:List S122) (n:Int):(Z0Z rb d n).1.length≤200040∧(Z0Z rb d n).2.1.length≤3334:=by
 have h:=Zdm rb (fun c h => (hrb c h).2.2) n (Z00 (Zn (segT n) d)).1 0 ([],[],-1) (Z2g _).2
 have:=ZaV (Zn (segT n) d)
 unfold Z0Z
 simp only [List.length_nil,Nat.zero_add] at h
 omega
theorem Z8y (rb:RBf) (d:List S122) (n:Int):0≤Z2U rb d n∧Z2U rb d n≤1000000000:=by
 unfold Z2U
 rw [Z8R]
 have:=Z86 (goodT rb (Z00 (Zn (segT n) d)).1) 0
 have:=(Zc4 rb (Z00 (Zn (segT n) d)).1).1
 have:=ZaV (Zn (segT n) d)
 omega
def Z2R (rb:RBf) (d:List S122):List Int→List S145→Int→Option (List S145×Int)
 | [],sp,st => some (sp,st)
 | n::t,sp,st => if Z2U rb d n < ((Zn (segT n) d).size:Int)∧t≠[] then none else Z2R rb d t (sp++(Z0Z rb d n).1) (mx st (Z0Z rb d n).2.2)
def endOf (rb:RBf) (d:List S122):List Int→Int→Int
 | [],e => e
 | n::t,_ => endOf rb d t (Z2U rb d n)
abbrev SLoad:=List Int×Int×Int×Int×List Int×List S145×Int×Int×Int
def Z2P (c:Int):SLoad:=([],0,0,0,[],[],0,0,c)
theorem Zb5 (rb:RBf) (d:List S122) (segs:List Int) (m1 m2 m3:Int) (m4 s0:List Int) (s1 s2 s3:Int) (s4:List Int) (dir:List S145) (st:Int) (i:Nat) (hi:i < segs.length) (hsl:segs.length≤8) (text:ByteArray) (sp:List S145) (hsp:sp.length≤200040) (hdir:dir.length≤2000000) (texts:List ByteArray) (htl:texts.length≤20000) (hts:∀ c∈texts,c.size≤9000) (stamp:Int) (r:SLoad):∀ (rest:List ByteArray) (n:Nat) (e:Int),texts.drop n = rest→0≤e→e≤9009 * (n:Int) →
  (if frSum e rest < (text.size:Int)∧i + 1 < segs.length then Z2P 4 = r else Ev (fun k => Z6.l1 k (frSum e rest) ((i + 1:Nat):Int) d segs m1 m2 m3 m4 s0 s1 s2 s3 s4 (sp.foldl layS dir) (mx st stamp)) r) →
  Ev (fun k => Z6.l2 k e (i:Int) text sp texts stamp (n:Int) d segs m1 m2 m3 m4 s0 s1 s2 s3 s4 dir st) r:=by
 intro rest
 induction rest with
 | nil =>
  intro n e h h0 h1 hr
  have:=ZE h
  rw [frSum] at hr
  have fin:∀ b:Bool,(b = true↔e < (text.size:Int)∧i + 1 < segs.length)→Ev (fun k => Z6.j4 k e (i:Int) sp stamp b d segs m1 m2 m3 m4 s0 s1 s2 s3 s4 dir st) r:=by
   intro b hb
   refine Ev.step (fun _ => rfl) ?_
   simp only [Z6.j4]
   refine Ev.ite (fun hc => ?_) (fun hc => ?_)
   ·rw [if_pos (hb.1 hc)] at hr
    exact Ev.done hr
   ·rw [if_neg (fun x => hc (hb.2 x))] at hr
    refine Ev.bind (show Ev (fun k => Zf.f k dir sp) (sp.foldl layS dir) by
     unfold Zf.f
     simp only [Option.bind_some,List.nil_append]
     exact Ev.pos (by simp;omega) (ZaU sp (by omega) sp 0 dir rfl (by omega))) ?_
    rw [Z5 (show i≤9223372036854775806 by omega)]
    unfold mx at hr
    refine Ev.ite (fun h5 => ?_) (fun h5 => ?_)
    ·rw [if_pos (show st < stamp by omega)] at hr;exact hr
    ·rw [if_neg (show ¬ st < stamp by omega)] at hr;exact hr
  refine Ev.step (fun _ => rfl) ?_
  simp only [Z6.l2,Z5 (show i≤9223372036854775806 by omega)]
  refine Ev.neg (by omega) (Ev.ite (fun hc => fin _ ?_) (fun hc => fin _ ?_))
  ·rw [decide_eq_true_iff];omega
  ·simp;omega
 | cons x t ih =>
  intro n e h h0 h1 hr
  obtain ⟨h2,-,h3⟩:=Zi h
  have hm:=hts x (List.mem_of_mem_drop (h ▸ List.mem_cons_self))
  have hf:=Z4g x
  rw [frSum] at hr
  refine Ev.step (fun _ => rfl) ?_
  simp only [Z6.l2,Z6q h,Z5 (show n≤9223372036854775806 by omega)]
  refine Ev.pos (by omega) (Ev.pos (by omega) (Ev.bind (Z4a x (by omega)) ?_))
  rw [Z9 (by omega) (by omega)]
  exact ih (n + 1) _ h3 (by omega) (by omega) hr
theorem Zbo (rb:RBf) (hrb:∀ c,c.size≤9000→RB c (rb c)) (d:List S122) (hd:ZT d = true) (segs:List Int) (hsl:segs.length≤8) (m1 m2 m3:Int) (m4:List Int):∀ (rest:List Int) (n:Nat) (e:Int) (sp:List S145) (st:Int),segs.drop n = rest→n≤segs.length→sp.length≤200040 * n →
  Ev (fun k => Z6.l1 k e (n:Int) d segs m1 m2 m3 m4 segs m1 m2 m3 m4 (sp.foldl layS []) st) (match Z2R rb d rest sp st with
   | none => Z2P 4
   | some (sp',st') => if dirOk (sp'.foldl layS []) = true then (segs,m1,m2,m3,m4,sp'.foldl layS [],st',endOf rb d rest e,0) else Z2P 4):=by
 obtain ⟨hdl,hdu⟩:=Z0z hd
 intro rest
 induction rest with
 | nil =>
  intro n e sp st h hn hl
  have:=ZE h
  have hll:=lay_len sp []
  simp only [List.length_nil] at hll
  refine Ev.step (fun _ => rfl) ?_
  simp only [Z6.l1,Z2R,endOf]
  refine Ev.neg (by omega) (Ev.bind (Z88 _ (by omega)) ?_)
  exact Ev.ite (fun hc => Ev.done (by rw [if_pos hc])) (fun hc => Ev.done (by rw [if_neg hc];rfl))
 | cons x t ih =>
  intro n e sp st h hn hl
  obtain ⟨h1,-,h3⟩:=Zi h
  have hll:=lay_len sp []
  simp only [List.length_nil] at hll
  obtain ⟨l1,l2⟩:=Zbg rb hrb d x
  have ht:=Z3b hd (segT x)
  refine Ev.step (fun _ => rfl) ?_
  simp only [Z6.l1,Z3c h]
  refine Ev.pos (by omega) (Ev.pos (by omega) (Ev.bind (Z19 x) (Ev.bind (Z3F d (by omega) hdu _) (Ev.bind (ZbA rb (fun c h => ⟨(hrb c h).1,(hrb c h).2.2⟩) (Zn (segT x) d) x) ?_))))
  have e2:(Z0Z rb d x).2.1 = goodT rb (Z00 (Zn (segT x) d)).1:=by unfold Z0Z;rw [Za6];simp
  have e3:frSum 0 (Z0Z rb d x).2.1 = Z2U rb d x:=by rw [e2,Z2U,Z8R]
  refine Zb5 rb d segs m1 m2 m3 m4 segs m1 m2 m3 m4 (sp.foldl layS []) st n h1 hsl _ (Z0Z rb d x).1 (by omega) (by omega) (Z0Z rb d x).2.1 (by omega) (fun c hc => ?_) (Z0Z rb d x).2.2 _ (Z0Z rb d x).2.1 0 0 rfl (by omega) (by omega) ?_
  ·rw [e2] at hc
   exact (Z2g _).2 c ((Zc4 rb _).2 c hc)
  ·rw [e3,Z2R,endOf]
   have hne:t≠[]↔n + 1 < segs.length:=by
    rw [←h3]
    constructor
    ·intro hh
     rcases Nat.lt_or_ge (n + 1) segs.length with h5 | h5
     ·exact h5
     ·exact absurd (List.drop_eq_nil_of_le h5) hh
    ·intro hh he
     have:=ZE he;omega
   by_cases hc:Z2U rb d x < ((Zn (segT x) d).size:Int)∧t≠[]
   ·rw [if_pos ⟨hc.1,hne.1 hc.2⟩,if_pos hc]
   ·rw [if_neg (fun h5 => hc ⟨h5.1,hne.2 h5.2⟩),if_neg hc,←List.foldl_append]
    exact ih (n + 1) (Z2U rb d x) (sp++(Z0Z rb d x).1) _ h3 (by omega) (by rw [List.length_append];omega)
theorem ZaT (d:List S122) (hd:ZT d = true) (segs:List Int) (m1 m2 m3:Int) (m4:List Int) (hsl:segs.length≤8) (r:SLoad) (hr:segs.all (fun n => stands (Z8 (segT n)) d) = true→Ev (fun k => Z6.l1 k 0 0 d segs m1 m2 m3 m4 segs m1 m2 m3 m4 [] m2) r) (hn:segs.all (fun n => stands (Z8 (segT n)) d) = false→r = Z2P 3):∀ (rest:List Int) (n:Nat),segs.drop n = rest→segs.all (fun n => stands (Z8 (segT n)) d) = rest.all (fun n => stands (Z8 (segT n)) d) →
  Ev (fun k => Z6.l0 k (n:Int) d segs m1 m2 m3 m4 segs m1 m2 m3 m4 m2) r:=by
 obtain ⟨hdl,hdu⟩:=Z0z hd
 intro rest
 induction rest with
 | nil =>
  intro n h ha
  have:=ZE h
  refine Ev.step (fun _ => rfl) ?_
  simp only [Z6.l0]
  exact Ev.neg (by omega) (hr (by rw [ha];rfl))
 | cons x t ih =>
  intro n h ha
  obtain ⟨h1,-,h3⟩:=Zi h
  refine Ev.step (fun _ => rfl) ?_
  simp only [Z6.l0,Z3c h,Z5 (show n≤9223372036854775806 by omega)]
  refine Ev.pos (by omega) (Ev.pos (by omega) (Ev.bind (Z19 x) (Ev.bind (Z4i d (by omega) hdu _) ?_)))
  unfold Z6O
  rw [List.all_cons] at ha
  cases hs:stands (Z8 (segT x)) d
  ·rw [hs,Bool.false_and] at ha
   exact Ev.pos (by simp) (Ev.done (hn ha).symm)
  ·rw [hs,Bool.true_and] at ha
   exact Ev.neg (by simp) (ih (n + 1) h3 ha)
abbrev RMf:=ByteArray→Man
def manAt (rm:RMf) (d:List S122):Man:=rm (Zn ⟨#[109]⟩ d)
def Z0G (rb:RBf) (rm:RMf) (d:List S122):SLoad :=
 if ZT d = true then
  if (stands (Z8 ⟨#[109]⟩) d && (manAt rm d).2.2.2.2.2) = true then
   if (manAt rm d).1.all (fun n => stands (Z8 (segT n)) d) = true then
    match Z2R rb d (manAt rm d).1 [] (manAt rm d).2.2.1 with
    | none => Z2P 4
    | some (sp',st') => if dirOk (sp'.foldl layS []) = true then ((manAt rm d).1,(manAt rm d).2.1,(manAt rm d).2.2.1,(manAt rm d).2.2.2.1,(manAt rm d).2.2.2.2.1,sp'.foldl layS [],st',endOf rb d (manAt rm d).1 0,0) else Z2P 4
   else Z2P 3
  else Z2P 2
 else Z2P 1
theorem ZdD {rm:RMf} (hrm:∀ s,s.size≤1000000→RM s (rm s)) {d:List S122} (hd:ZT d = true) (h:(manAt rm d).2.2.2.2.2 = true):manOk (manAt rm d).1 (manAt rm d).2.1 (manAt rm d).2.2.1 (manAt rm d).2.2.2.1 (manAt rm d).2.2.2.2.1 = true:=by
 have ht:=Z3b hd ⟨#[109]⟩
 obtain ⟨-,-,hm⟩:=hrm (Zn ⟨#[109]⟩ d) (by omega)
 rcases hm with hm | ⟨_,_,_,_,_,hm,hk⟩
 ·unfold manAt at h;rw [hm] at h;cases h
 ·unfold manAt;rw [hm];exact (ZbX hk).1
theorem ZaY (rb:RBf) (hrb:∀ c,c.size≤9000→RB c (rb c)) (rm:RMf) (hrm:∀ s,s.size≤1000000→RM s (rm s)) (d:List S122) (hl:d.length≤1048576):Ev (fun k => Z6.f k d) (Z0G rb rm d):=by
 unfold Z6.f Z0G
 refine Ev.bind (Z2C d hl) ?_
 cases hd:ZT d
 ·exact Ev.neg (by simp) (Ev.done (by simp [Z2P]))
 have ht:=Z3b hd ⟨#[109]⟩
 refine Ev.pos rfl (Ev.bind (Zcl d hd _) (Ev.bind (hrm (Zn ⟨#[109]⟩ d) (by omega)).1 ?_))
 rw [if_pos rfl]
 change Ev (fun k => if stands (Z8 ⟨#[109]⟩) d = true then Z6.j0 k (!(manAt rm d).2.2.2.2.2) d (manAt rm d).1 (manAt rm d).2.1 (manAt rm d).2.2.1 (manAt rm d).2.2.2.1 (manAt rm d).2.2.2.2.1 else Z6.j0 k true d (manAt rm d).1 (manAt rm d).2.1 (manAt rm d).2.2.1 (manAt rm d).2.2.2.1 (manAt rm d).2.2.2.2.1) _
 cases hs:stands (Z8 ⟨#[109]⟩) d
 ·refine Ev.neg (by simp) (Ev.step (fun _ => rfl) ?_)
  simp only [Z6.j0]
  exact Ev.pos trivial (Ev.done (by simp [Z2P]))
 refine Ev.pos rfl (Ev.step (fun _ => rfl) ?_)
 simp only [Z6.j0]
 cases hm:(manAt rm d).2.2.2.2.2
 ·exact Ev.pos (by simp) (Ev.done (by simp [Z2P]))
 have hk:=ZdD hrm hd hm
 obtain ⟨b1,-,-,-,-,-,-⟩:=ZY hk
 rw [Bool.true_and,if_pos rfl]
 refine Ev.neg (by simp) (ZaT d hd (manAt rm d).1 _ _ _ _ (by omega) _ (fun ha => ?_) (fun ha => ?_) (manAt rm d).1 0 rfl rfl)
 ·rw [if_pos ha]
  exact Zbo rb hrb d hd (manAt rm d).1 (by omega) _ _ _ _ (manAt rm d).1 0 0 [] _ rfl (by omega) (by simp)
 ·rw [if_neg (by rw [ha];simp)]
abbrev OS:=List Int×Int×Int×Int×List Int×List S145×Int×List S119×Int
def Z3P (c:Int):OS:=([],0,0,0,[],[],0,[],c)
def Z2Q (segs:List Int):Int:=rd segs ((segs.length:Int) - 1)
def Z5o (d:List S122) (n e:Int):List S119:=if e < ((Zn (segT n) d).size:Int) then [⟨1,segT n,⟨#[]⟩,(Zn (segT n) d).extract 0 e.toNat⟩] else []
def ZL (rb:RBf) (rm:RMf) (d:List S122):OS :=
 if (Z0G rb rm d).2.2.2.2.2.2.2.2 = 0 then
  ((Z0G rb rm d).1,(Z0G rb rm d).2.1,(Z0G rb rm d).2.2.1,(Z0G rb rm d).2.2.2.1,(Z0G rb rm d).2.2.2.2.1,(Z0G rb rm d).2.2.2.2.2.1,(Z0G rb rm d).2.2.2.2.2.2.1,Z3t d++Z2a (Z0G rb rm d).1 d++Z5o d (Z2Q (Z0G rb rm d).1) (Z0G rb rm d).2.2.2.2.2.2.2.1,0)
 else Z3P (Z0G rb rm d).2.2.2.2.2.2.2.2
theorem Zai (rb:RBf) (d:List S122):∀ (l:List Int) (e:Int),0≤e→e≤1000000000→0≤endOf rb d l e∧endOf rb d l e≤1000000000
 | [],e,h0,h1 => ⟨h0,h1⟩
 | n::t,e,_,_ => by
  have:=Z8y rb d n
  rw [endOf]
  exact Zai rb d t _ (by omega) (by omega)
theorem Zcb {rb:RBf} {rm:RMf} (hrm:∀ s,s.size≤1000000→RM s (rm s)) {d:List S122} (h:(Z0G rb rm d).2.2.2.2.2.2.2.2 = 0):ZT d = true∧manOk (Z0G rb rm d).1 (Z0G rb rm d).2.1 (Z0G rb rm d).2.2.1 (Z0G rb rm d).2.2.2.1 (Z0G rb rm d).2.2.2.2.1 = true∧dirOk (Z0G rb rm d).2.2.2.2.2.1 = true∧0≤(Z0G rb rm d).2.2.2.2.2.2.2.1∧(Z0G rb rm d).2.2.2.2.2.2.2.1≤1000000000:=by
 unfold Z0G at h ⊢
 split at h
 ·rename_i hd
  rw [if_pos hd]
  split at h
  ·rename_i hs
   rw [if_pos hs]
   split at h
   ·rename_i ha
    rw [if_pos ha]
    split at h
    ·simp [Z2P] at h
    ·rename_i sp' st' ho
     split at h
     ·rename_i hk
      rw [if_pos hk]
      simp only [Bool.and_eq_true] at hs
      have:=Zai rb d (manAt rm d).1 0 (by omega) (by omega)
      exact ⟨hd,ZdD hrm hd hs.2,hk,this.1,this.2⟩
     ·simp [Z2P] at h
   ·simp [Z2P] at h
  ·simp [Z2P] at h
 ·simp [Z2P] at h
theorem Z7u (d:List S122) (hd:ZT d = true) (e:Int) (he0:0≤e) (he1:e≤1000000000) (segs:List Int) (hs1:1≤segs.length) (hs8:segs.length≤8) (m1 m2 m3:Int) (m4:List Int) (dir:List S145) (st:Int):∀ (rest:List S122) (n:Nat) (acc:List S119),d.drop n = rest→n≤d.length→acc.length≤n + 1 →
  Ev (fun k => Zl.l0 k e acc (n:Int) d segs m1 m2 m3 m4 dir st) (segs,m1,m2,m3,m4,dir,st,acc++Z2a segs rest++Z5o d (Z2Q segs) e,0):=by
 obtain ⟨hdl,hdu⟩:=Z0z hd
 intro rest
 induction rest with
 | nil =>
  intro n acc h hn ha
  have:=ZE h
  refine Ev.step (fun _ => rfl) ?_
  simp only [Zl.l0]
  rw [Z9 (n:=(segs.length:Int) - 1) (by omega) (by omega)]
  change Ev (fun k => if (n:Int) < (d.length:Int) then _ else if 0≤(segs.length:Int) - 1 then if (segs.length:Int) - 1 < (segs.length:Int) then (Z0f.f k (Z2Q segs)).bind _ else none else none) _
  refine Ev.neg (by omega) (Ev.pos (by omega) (Ev.pos (by omega) (Ev.bind (Z19 _) (Ev.bind (Z3F d (by omega) hdu _) ?_))))
  unfold Z5o
  refine Ev.ite (fun hc => Ev.pos (by omega) (Ev.pos (by unfold Z2Q at *;omega) (Ev.pos (by omega) (Ev.done ?_)))) (fun hc => Ev.done ?_)
  ·rw [if_pos hc];simp [Z2a]
  ·rw [if_neg hc];simp [Z2a]
 | cons x t ih =>
  intro n acc h hn ha
  obtain ⟨h1,-,h3⟩:=Zi h
  have hm:=Z52 hd x (List.mem_of_mem_drop (h ▸ List.mem_cons_self))
  refine Ev.step (fun _ => rfl) ?_
  simp only [Zl.l0,Z2p h,Z5 (show n≤9223372036854775806 by omega)]
  refine Ev.pos (by omega) (Ev.pos (by omega) (Ev.bind (ZcD x.f0 (by omega)) (Ev.ite (fun hc => ?_) (fun hc => ?_))))
  ·refine Ev.bind (Ze5 segs _ (by omega)) (Ev.ite (fun hi => Ev.eq (ih (n + 1) acc h3 (by omega) (by omega)) ?_) (fun hi => Ev.pos (by omega) (Ev.eq (ih (n + 1) _ h3 (by omega) (by simp;omega)) ?_)))
   ·rw [Z48,if_neg (by unfold dropB;simp only [Bool.and_eq_true,Bool.not_eq_true'];intro e;rw [hi] at e;exact absurd e.2 (by simp))];simp
   ·rw [Z48,if_pos (by unfold dropB;rw [decide_eq_true hc,Bool.true_and,Bool.eq_false_iff.2 hi];rfl)];simp [Ze2]
  ·refine Ev.eq (ih (n + 1) acc h3 (by omega) (by omega)) ?_
   rw [Z48,if_neg (by unfold dropB;rw [decide_eq_false hc];simp)];simp
theorem Z4C (rb:RBf) (hrb:∀ c,c.size≤9000→RB c (rb c)) (rm:RMf) (hrm:∀ s,s.size≤1000000→RM s (rm s)) (d:List S122) (hl:d.length≤1048576):Ev (fun k => Zl.f k d) (ZL rb rm d):=by
 unfold Zl.f ZL
 refine Ev.bind (ZaY rb hrb rm hrm d hl) (Ev.call rfl ?_)
 refine Ev.ite (fun hc => ?_) (fun hc => Ev.done (by rw [if_neg hc];rfl))
 rw [if_pos hc]
 obtain ⟨g1,g2,g3,g4,g5⟩:=Zcb hrm hc
 obtain ⟨hdl,hdu⟩:=Z0z g1
 obtain ⟨b1,-,-,-,-,-,-⟩:=ZY g2
 refine Ev.bind (Z4i d hl hdu _) ?_
 unfold Z6O Z3t
 have go:∀ acc:List S119,acc.length≤1→Ev (fun k => Zl.j0 k (Z0G rb rm d).2.2.2.2.2.2.2.1 acc d (Z0G rb rm d).1 (Z0G rb rm d).2.1 (Z0G rb rm d).2.2.1 (Z0G rb rm d).2.2.2.1 (Z0G rb rm d).2.2.2.2.1 (Z0G rb rm d).2.2.2.2.2.1 (Z0G rb rm d).2.2.2.2.2.2.1) ((Z0G rb rm d).1,(Z0G rb rm d).2.1,(Z0G rb rm d).2.2.1,(Z0G rb rm d).2.2.2.1,(Z0G rb rm d).2.2.2.2.1,(Z0G rb rm d).2.2.2.2.2.1,(Z0G rb rm d).2.2.2.2.2.2.1,acc++Z2a (Z0G rb rm d).1 d++Z5o d (Z2Q (Z0G rb rm d).1) (Z0G rb rm d).2.2.2.2.2.2.2.1,0):=fun acc ha => by
  refine Ev.step (fun _ => rfl) ?_
  simp only [Zl.j0]
  exact Z7u d g1 _ g4 g5 _ (by omega) (by omega) _ _ _ _ _ _ d 0 acc rfl (by omega) (by omega)
 cases hs:stands (Z8 ⟨#[109,43]⟩) d
 ·exact Ev.neg (by simp) (Ev.eq (go [] (by simp)) (by simp))
 ·exact Ev.pos (by simp) (Ev.pos (by simp) (Ev.eq (go _ (by simp)) (by simp)))
def Z4R (rb:RBf) (d:List S122):List Int→List S119
 | [] => []
 | [n] => Z5o d n (Z2U rb d n)
 | _::m::t => Z4R rb d (m::t)
theorem Zah (rb:RBf) (d:List S122):∀ (l:List Int) (e:Int),l≠[]→Z4R rb d l = Z5o d (Z2Q l) (endOf rb d l e)
 | [],_,h => absurd rfl h
 | [n],e,_ => by simp [Z4R,Z2Q,endOf,rd]
 | a::m::t,e,_ => by
  rw [Z4R,endOf,Zah rb d (m::t) (Z2U rb d a) (by simp)]
  congr 1
  unfold Z2Q rd
  simp only [List.length_cons]
  rw [show (((t.length + 1 + 1:Nat):Int) - 1).toNat = t.length + 1 by omega,show (((t.length + 1:Nat):Int) - 1).toNat = t.length by omega,List.getD_cons_succ]
theorem Z8X (rb:RBf) (hrb:∀ c,c.size≤9000→RB c (rb c)) (d:List S122) (hd:ZT d = true) (segs:List Int) (hsl:segs.length≤8) (nx ba bt:Int) (cf:List Int):∀ (rest:List Int) (n:Nat) (raws:List S119) (sp:List S145) (st:Int),segs.drop n = rest→n≤segs.length→raws.length + rest.length≤1000→sp.length≤200040 * n →
  Ev (fun k => Zm.l1 k raws sp segs (segs.length:Int) (n:Int) d [] 0 0 0 [] [] 0 nx ba bt cf nx ba bt [] st) (match Z2R rb d rest sp st with
   | none => Z3P 4
   | some (sp',st') => if dirOk (sp'.foldl layS []) = true then (segs,nx,ba,bt,cf,sp'.foldl layS [],st',raws++Z4R rb d rest,0) else Z3P 4):=by
 intro rest
 induction rest with
 | nil =>
  intro n raws sp st h hn hr hl
  have:=ZE h
  refine Ev.step (fun _ => rfl) ?_
  simp only [Zm.l1,Z2R,Z4R]
  refine Ev.neg (by omega) (Ev.bind (ZbB [] sp (by simp only [List.length_nil];omega)) ?_)
  unfold dirMore
  rw [if_pos (show dirOk ([]:List S145) = true from rfl)]
  cases hk:dirOk (sp.foldl layS [])
  ·exact Ev.neg (by simp) (Ev.done (by simp [Z3P]))
  ·exact Ev.pos (by simp) (Ev.done (by simp))
 | cons x t ih =>
  intro n raws sp st h hn hr hl
  obtain ⟨h1,-,h3⟩:=Zi h
  obtain ⟨l1,l2⟩:=Zbg rb hrb d x
  have ht:=Z3b hd (segT x)
  have hb:=Z8y rb d x
  have hne:t≠[]↔n + 1 < segs.length:=by
   rw [←h3]
   constructor
   ·intro hh
    rcases Nat.lt_or_ge (n + 1) segs.length with h5 | h5
    ·exact h5
    ·exact absurd (List.drop_eq_nil_of_le h5) hh
   ·intro hh he
    have:=ZE he;omega
  refine Ev.step (fun _ => rfl) ?_
  simp only [Zm.l1,Z3c h,Z5 (show n≤9223372036854775806 by omega)]
  rw [Z9 (n:=(segs.length:Int) - 1) (by omega) (by omega)]
  refine Ev.pos (by omega) (Ev.pos (by omega) (Ev.pos (by omega) (Ev.call (Z0T x) (Ev.bind (Z2F d hd _) (Ev.bind (ZbT rb hrb (Zn (segT x) d) x) (Ev.bind (Z9F rb hrb (Zn (segT x) d)) ?_))))))
  have hS:Z1K rb x 0 (Z00 (Zn (segT x) d)).1 ([],[],-1) = Z0Z rb d x:=rfl
  have hE:endOn rb 0 (Z00 (Zn (segT x) d)).1 = Z2U rb d x:=rfl
  rw [hS,hE]
  dsimp only
  rw [List.length_cons] at hr
  have go:∀ raws':List S119,raws'.length + t.length≤1000→Ev (fun k => Zm.l1 k raws' (sp++(Z0Z rb d x).1) segs (segs.length:Int) ((n + 1:Nat):Int) d [] 0 0 0 [] [] 0 nx ba bt cf nx ba bt [] (mx st (Z0Z rb d x).2.2)) (match Z2R rb d t (sp++(Z0Z rb d x).1) (mx st (Z0Z rb d x).2.2) with
   | none => Z3P 4
   | some (sp',st') => if dirOk (sp'.foldl layS []) = true then (segs,nx,ba,bt,cf,sp'.foldl layS [],st',raws'++Z4R rb d t,0) else Z3P 4):=fun raws' hr' => ih (n + 1) raws' _ _ h3 (by omega) hr' (by rw [List.length_append];omega)
  rw [Z2R]
  by_cases hc:Z2U rb d x < ((Zn (segT x) d).size:Int)
  ·by_cases hcn:t≠[]
   ·rw [if_pos ⟨hc,hcn⟩]
    have:=hne.1 hcn
    exact Ev.pos hc (Ev.pos (by omega) (Ev.now _))
   ·have hcn:=Decidable.not_not.1 hcn
    have:¬ n + 1 < segs.length:=fun h5 => hne.2 h5 hcn
    rw [if_neg (fun h5 => h5.2 hcn)]
    refine Ev.pos hc (Ev.neg (by omega) (Ev.pos hc (Ev.call (Z0T x) (Ev.pos (by omega) (Ev.pos (by omega) (Ev.pos (by omega) (Ev.pos (by omega) (Ev.eq (go _ (by simp;omega)) ?_))))))))
    subst hcn
    simp only [Z2R,Z4R,List.append_nil,List.append_assoc]
    unfold Z5o
    rw [if_pos hc]
  ·rw [if_neg (fun h5 => hc h5.1)]
   refine Ev.neg hc (Ev.neg hc (Ev.pos (by omega) (Ev.eq (go raws (by omega)) ?_)))
   have e:Z4R rb d (x::t) = Z4R rb d t:=by
    cases t with
    | nil => simp only [Z4R];unfold Z5o;rw [if_neg hc]
    | cons y t => rw [Z4R]
   rw [e]
theorem Z9p (d:List S122) (hd:ZT d = true) (segs:List Int) (nx ba bt:Int) (cf:List Int) (hsl:segs.length≤8) (r:OS) (hr:segs.all (fun n => stands (Z8 (segT n)) d) = true→Ev (fun k => (Z0r.f k d segs nx ba bt cf).bind fun t5 => Zm.l1 k t5 [] segs (segs.length:Int) 0 d [] 0 0 0 [] [] 0 nx ba bt cf nx ba bt [] ba) r) (hn:segs.all (fun n => stands (Z8 (segT n)) d) = false→r = Z3P 3):∀ (rest:List Int) (n:Nat),segs.drop n = rest→segs.all (fun n => stands (Z8 (segT n)) d) = rest.all (fun n => stands (Z8 (segT n)) d) →
  Ev (fun k => Zm.l0 k segs (segs.length:Int) (n:Int) d [] 0 0 0 [] [] 0 nx ba bt cf) r:=by
 intro rest
 induction rest with
 | nil =>
  intro n h ha
  have:=ZE h
  refine Ev.step (fun _ => rfl) ?_
  simp only [Zm.l0]
  exact Ev.neg (by omega) (hr (by rw [ha];rfl))
 | cons x t ih =>
  intro n h ha
  obtain ⟨h1,-,h3⟩:=Zi h
  refine Ev.step (fun _ => rfl) ?_
  simp only [Zm.l0,Z3c h,Z5 (show n≤9223372036854775806 by omega)]
  refine Ev.pos (by omega) (Ev.pos (by omega) (Ev.pos (by omega) (Ev.call (Z0T x) (Ev.bind (Z2F d hd _) ?_))))
  rw [List.all_cons] at ha
  dsimp only
  cases hs:stands (Z8 (segT x)) d
  ·rw [hs,Bool.false_and] at ha
   exact Ev.neg (by simp) (Ev.done (hn ha).symm)
  ·rw [hs,Bool.true_and] at ha
   exact Ev.pos rfl (ih (n + 1) h3 ha)
theorem Zc3 (segs:List Int) (l:List S122):(Z2a segs l).length≤l.length:=by
 unfold Z2a
 rw [List.length_map]
 exact List.length_filter_le _ _
theorem ZbJ (l:List S122):(Z3t l).length≤1:=by unfold Z3t;split <;> simp
theorem Z3L (rb:RBf) (hrb:∀ c,c.size≤9000→RB c (rb c)) (rm:RMf) (hrm:∀ s,s.size≤1000000→RM s (rm s)) (d:List S122) (hl:d.length≤1048576):Ev (fun k => Zm.f k d) (ZL rb rm d):=by
 unfold Zm.f ZL Z0G
 refine Ev.bind (Z3i d hl) ?_
 cases hd:ZT d
 ·exact Ev.neg (by simp) (Ev.done (by simp [Z2P,Z3P]))
 have ht:=Z3b hd ⟨#[109]⟩
 refine Ev.pos rfl (Ev.bind (Z2F d hd _) (Ev.bind (hrm (Zn ⟨#[109]⟩ d) (by omega)).2.1 ?_))
 rw [if_pos (show true = true from rfl)]
 change Ev (fun k => if stands (Z8 ⟨#[109]⟩) d = true then (if (manAt rm d).2.2.2.2.2 = true then Zm.l0 k (manAt rm d).1 ((manAt rm d).1.length:Int) 0 d [] 0 0 0 [] [] 0 (manAt rm d).2.1 (manAt rm d).2.2.1 (manAt rm d).2.2.2.1 (manAt rm d).2.2.2.2.1 else some (Z3P 2)) else some (Z3P 2)) _
 cases hs:stands (Z8 ⟨#[109]⟩) d
 ·exact Ev.neg (by simp) (Ev.done (by simp [Z2P,Z3P]))
 refine Ev.pos rfl ?_
 cases hm:(manAt rm d).2.2.2.2.2
 ·exact Ev.neg (by simp) (Ev.done (by simp [Z2P,Z3P]))
 have hk:=ZdD hrm hd hm
 obtain ⟨b1,-,-,-,-,b6,-⟩:=ZY hk
 have hdl:=(Z0z hd).1
 have hnd:=ZbJ d
 have hdo:=Zc3 (manAt rm d).1 d
 rw [Bool.true_and,if_pos (show true = true from rfl)]
 refine Ev.pos rfl (Z9p d hd (manAt rm d).1 _ _ _ _ (by omega) _ (fun ha => ?_) (fun ha => ?_) (manAt rm d).1 0 rfl rfl)
 ·rw [if_pos ha]
  refine Ev.bind (Zau d hd (manAt rm d).1 (by omega) b6 _ _ _ _) (Ev.eq (Z8X rb hrb d hd (manAt rm d).1 (by omega) _ _ _ _ (manAt rm d).1 0 _ [] _ rfl (by omega) (by rw [List.length_append];omega) (by simp)) ?_)
  cases ho:Z2R rb d (manAt rm d).1 [] (manAt rm d).2.2.1 with
  | none => simp [Z2P,Z3P]
  | some z =>
   obtain ⟨sp',st'⟩:=z
   dsimp only
   split
   ·rename_i hdk
    rw [Zah rb d _ 0 (by intro e;rw [e] at b1;simp at b1)]
    simp
   ·simp [Z2P,Z3P]
 ·simp only [ha,Bool.false_eq_true,if_false]
  simp [Z2P,Z3P]
theorem Z66 {l:List S145} (h:dirOk l = true):l.length≤60:=by
 rw [dirOk,Bool.and_eq_true,decide_eq_true_iff] at h
 exact h.1
theorem ZdA {rb:RBf} {rm:RMf} (hrm:∀ s,s.size≤1000000→RM s (rm s)) (d:List S122):(ZL rb rm d).1.length≤8∧(ZL rb rm d).2.2.2.2.1.length≤4∧(ZL rb rm d).2.2.2.2.2.1.length≤60∧(ZL rb rm d).2.2.2.2.2.2.2.1.length≤32:=by
 unfold ZL
 split
 ·rename_i hc
  obtain ⟨g1,g2,g3,-,-⟩:=Zcb hrm hc
  obtain ⟨b1,-,-,-,b5,-,-⟩:=ZY g2
  have hdl:=(Z0z g1).1
  have hnd:=ZbJ d
  have hdo:=Zc3 (Z0G rb rm d).1 d
  have h3:=Z66 g3
  have hp:(Z5o d (Z2Q (Z0G rb rm d).1) (Z0G rb rm d).2.2.2.2.2.2.2.1).length≤1:=by unfold Z5o;split <;> simp
  dsimp only
  simp only [List.length_append]
  omega
 ·simp [Z3P]
theorem rb_all:∃ rb:RBf,∀ c,c.size≤9000→RB c (rb c):=Classical.axiomOfChoice (r:=fun (c:ByteArray) (r:Int×List S162×Bool) => c.size≤9000→RB c r) (fun c => by
 by_cases h:c.size≤9000
 ·obtain ⟨r,hr⟩:=ZcB c (by omega)
  exact ⟨r,fun _ => hr⟩
 ·exact ⟨(0,[],false),fun h' => absurd h' h⟩)
theorem rm_all:∃ rm:RMf,∀ s,s.size≤1000000→RM s (rm s):=Classical.axiomOfChoice (r:=fun (s:ByteArray) (r:Man) => s.size≤1000000→RM s r) (fun s => by
 by_cases h:s.size≤1000000
 ·obtain ⟨r,hr⟩:=Z9n s h
  exact ⟨r,fun _ => hr⟩
 ·exact ⟨noMan,fun h' => absurd h' h⟩)
theorem Z9k {rb:RBf} {rm:RMf} {d:List S122} (h:(ZL rb rm d).2.2.2.2.2.2.2.2 = 0):(Z0G rb rm d).2.2.2.2.2.2.2.2 = 0:=by
 unfold ZL at h
 split at h
 ·assumption
 ·exact h
theorem Z9a {rb:RBf} {rm:RMf} (hrm:∀ s,s.size≤1000000→RM s (rm s)) {d:List S122} (h:(ZL rb rm d).2.2.2.2.2.2.2.2 = 0):ZT d = true∧manOk (ZL rb rm d).1 (ZL rb rm d).2.1 (ZL rb rm d).2.2.1 (ZL rb rm d).2.2.2.1 (ZL rb rm d).2.2.2.2.1 = true∧dirOk (ZL rb rm d).2.2.2.2.2.1 = true:=by
 have hc:=Z9k h
 obtain ⟨g1,g2,g3,-,-⟩:=Zcb hrm hc
 unfold ZL
 rw [if_pos hc]
 exact ⟨g1,g2,g3⟩
theorem Z6L (l m:List Int) (hl:l.length≤9223372036854775806) (he:l.length = m.length):∀ (ra rb:List Int) (n:Nat),l.drop n = ra→m.drop n = rb→Ev (fun k => Z0b.l0 k l m (n:Int)) (decide (ra = rb)):=by
 intro ra
 induction ra with
 | nil =>
  intro rb n h1 h2
  have h3:=ZE h1
  have:rb = []:=by rw [←h2];exact List.drop_eq_nil_of_le (by omega)
  subst this
  refine Ev.step (fun _ => rfl) ?_
  simp only [Z0b.l0]
  exact Ev.neg (by omega) (Ev.done (by simp))
 | cons x t ih =>
  intro rb n h1 h2
  obtain ⟨k1,-,k3⟩:=Zi h1
  cases rb with
  | nil => have:=ZE h2;omega
  | cons y u =>
   obtain ⟨j1,-,j3⟩:=Zi h2
   refine Ev.step (fun _ => rfl) ?_
   simp only [Z0b.l0,Z3c h1,Z3c h2,Z5 (show n≤9223372036854775806 by omega)]
   refine Ev.pos (by omega) (Ev.pos (by omega) (Ev.pos (by omega) (Ev.ite (fun hc => Ev.eq (ih u (n + 1) k3 j3) ?_) (fun hc => Ev.done ?_))))
   ·subst hc;simp
   ·simp [hc]
theorem Z5b (l m:List Int) (hl:l.length≤9223372036854775806):Ev (fun k => Z0b.f k l m) (decide (l = m)):=by
 unfold Z0b.f
 refine Ev.ite (fun hc => Z6L l m hl (by omega) l m 0 rfl rfl) (fun hc => Ev.done ?_)
 exact (decide_eq_false (fun e => hc (by rw [e]))).symm
def Z3z (x:S145):ByteArray×Int×Int×Int:=(x.f0,x.f1,x.f2,x.f3)
theorem ZbV:∀ {l m:List S145},l.map Z3z = m.map Z3z→l = m
 | [],[],_ => rfl
 | [],_::_,h => by simp at h
 | _::_,[],h => by simp at h
 | ⟨a,b,c,d⟩::l,⟨a',b',c',d'⟩::m,h => by
  simp only [List.map_cons,List.cons.injEq,Z3z,Prod.mk.injEq] at h
  obtain ⟨⟨rfl,rfl,rfl,rfl⟩,h⟩:=h
  rw [ZbV h]
def Z2O (s0:List Int) (a b c:Int) (s4:List Int) (dir:List S145) (st:Int) (t0:List Int) (a' b' c':Int) (t4:List Int) (dir':List S145) (st':Int):Bool :=
 decide (st = st') && (decide (s0 = t0) && (decide (a = a') && (decide (b = b') && (decide (c = c') && (decide (s4 = t4) && decide (dir.map Z3z = dir'.map Z3z))))))
theorem Z6I {s0 t0 s4 t4:List Int} {a b c st a' b' c' st':Int} {dir dir':List S145} (h:Z2O s0 a b c s4 dir st t0 a' b' c' t4 dir' st' = true):st = st'∧s0 = t0∧a = a'∧b = b'∧c = c'∧s4 = t4∧dir = dir':=by
 unfold Z2O at h
 simp only [Bool.and_eq_true,decide_eq_true_iff] at h
 exact ⟨h.1,h.2.1,h.2.2.1,h.2.2.2.1,h.2.2.2.2.1,h.2.2.2.2.2.1,ZbV h.2.2.2.2.2.2⟩
theorem shelfEq_symm (s0:List Int) (a b c:Int) (s4:List Int) (dir:List S145) (st:Int) (t0:List Int) (a' b' c':Int) (t4:List Int) (dir':List S145) (st':Int):Z2O s0 a b c s4 dir st t0 a' b' c' t4 dir' st' = Z2O t0 a' b' c' t4 dir' st' s0 a b c s4 dir st:=by
 have h:∀ {s0 t0 s4 t4:List Int} {a b c st a' b' c' st':Int} {dir dir':List S145},Z2O s0 a b c s4 dir st t0 a' b' c' t4 dir' st' = true→Z2O t0 a' b' c' t4 dir' st' s0 a b c s4 dir st = true:=by
  intro s0 t0 s4 t4 a b c st a' b' c' st' dir dir' h
  obtain ⟨rfl,rfl,rfl,rfl,rfl,rfl,rfl⟩:=Z6I h
  exact h
 exact Bool.eq_iff_iff.2 ⟨h,h⟩
theorem Z9g (l m:List S145) (hl:l.length≤9223372036854775806) (he:l.length = m.length) (s0:List Int) (a b c:Int) (s4:List Int) (st:Int) (t0:List Int) (a' b' c':Int) (t4:List Int) (st':Int):∀ (ra rb:List S145) (n:Nat),l.drop n = ra→m.drop n = rb→Ev (fun k => Zv.l0 k (n:Int) s0 a b c s4 l st t0 a' b' c' t4 m st') (decide (ra.map Z3z = rb.map Z3z)):=by
 intro ra
 induction ra with
 | nil =>
  intro rb n h1 h2
  have h3:=ZE h1
  have:rb = []:=by rw [←h2];exact List.drop_eq_nil_of_le (by omega)
  subst this
  refine Ev.step (fun _ => rfl) ?_
  simp only [Zv.l0]
  exact Ev.neg (by omega) (Ev.done (by simp))
 | cons x t ih =>
  intro rb n h1 h2
  obtain ⟨k1,-,k3⟩:=Zi h1
  cases rb with
  | nil => have:=ZE h2;omega
  | cons y u =>
   obtain ⟨j1,-,j3⟩:=Zi h2
   refine Ev.step (fun _ => rfl) ?_
   simp only [Zv.l0,Z1G h1,Z1G h2,Z5 (show n≤9223372036854775806 by omega)]
   refine Ev.pos (by omega) (Ev.pos (by omega) (Ev.pos (by omega) (Ev.ite (fun hc => Ev.done ?_) (fun hc => Ev.eq (ih u (n + 1) k3 j3) ?_))))
   ·symm
    rw [decide_eq_false_iff_not]
    intro e
    simp only [List.map_cons,List.cons.injEq,Z3z,Prod.mk.injEq] at e
    obtain ⟨⟨e1,e2,e3,e4⟩,-⟩:=e
    simp [e1,e2,e3,e4] at hc
   ·simp only [Bool.not_eq_true,Bool.or_eq_false_iff,Bool.not_eq_false',beq_iff_eq] at hc
    obtain ⟨e1,e2,e3,e4⟩:=hc
    have e1:=toList_inj.1 e1
    simp [Z3z,e1,e2,e3,e4]
theorem ZbK (s0:List Int) (a b c:Int) (s4:List Int) (dir:List S145) (st:Int) (t0:List Int) (a' b' c':Int) (t4:List Int) (dir':List S145) (st':Int) (h0:s0.length≤9223372036854775806) (h4:s4.length≤9223372036854775806) (h5:dir.length≤9223372036854775806):Ev (fun k => Zv.f k s0 a b c s4 dir st t0 a' b' c' t4 dir' st') (Z2O s0 a b c s4 dir st t0 a' b' c' t4 dir' st'):=by
 have no:∀ r:Bool,r = false→Ev (fun k => Zv.j0 k true s0 a b c s4 dir st t0 a' b' c' t4 dir' st') r:=fun r hr => by
  refine Ev.step (fun _ => rfl) ?_
  simp only [Zv.j0]
  exact Ev.pos trivial (Ev.done hr.symm)
 unfold Zv.f
 refine Ev.ite (fun e1 => Ev.bind (Z5b s0 t0 h0) (Ev.ite (fun e2 => Ev.ite (fun e3 => Ev.ite (fun e4 => Ev.ite (fun e5 => Ev.bind (Z5b s4 t4 h4) (Ev.ite (fun e6 => ?_) (fun e6 => no _ ?_))) (fun e5 => no _ ?_)) (fun e4 => no _ ?_)) (fun e3 => no _ ?_)) (fun e2 => no _ ?_))) (fun e1 => no _ ?_)
 ·have e2:=of_decide_eq_true e2
  have e6:=of_decide_eq_true e6
  subst e1 e2 e3 e4 e5 e6
  refine Ev.step (fun _ => rfl) ?_
  simp only [Zv.j0]
  refine Ev.ite (fun hc => Ev.done ?_) (fun hc => ?_)
  ·symm
   unfold Z2O
   have:¬ dir.map Z3z = dir'.map Z3z:=fun e => by
    have:=congrArg List.length e
    simp only [List.length_map] at this
    simp [this] at hc
   simp [this]
  ·have he:dir.length = dir'.length:=by have hi:=hc;simp at hi;omega
   refine Ev.eq (Z9g dir dir' h5 he _ _ _ _ _ _ _ _ _ _ _ _ dir dir' 0 rfl rfl) ?_
   simp [Z2O]
 ·unfold Z2O;simp at e6;simp [e6]
 ·unfold Z2O;simp [e5]
 ·unfold Z2O;simp [e4]
 ·unfold Z2O;simp [e3]
 ·unfold Z2O;simp at e2;simp [e2]
 ·unfold Z2O;simp [e1]
theorem eqInts_loop (l m:List Int) (hl:l.length≤9223372036854775806) (he:l.length = m.length):∀ (ra rb:List Int) (n:Nat),l.drop n = ra→m.drop n = rb→Ev (fun k => ZI.l0 k l m (l.length:Int) (n:Int)) (decide (ra = rb)):=by
 intro ra
 induction ra with
 | nil =>
  intro rb n h1 h2
  have h3:=ZE h1
  have:rb = []:=by rw [←h2];exact List.drop_eq_nil_of_le (by omega)
  subst this
  refine Ev.step (fun _ => rfl) ?_
  simp only [ZI.l0]
  exact Ev.neg (by omega) (Ev.done (by simp))
 | cons x t ih =>
  intro rb n h1 h2
  obtain ⟨k1,-,k3⟩:=Zi h1
  cases rb with
  | nil => have:=ZE h2;omega
  | cons y u =>
   obtain ⟨j1,-,j3⟩:=Zi h2
   refine Ev.step (fun _ => rfl) ?_
   simp only [ZI.l0,Z3c h1,Z3c h2,Z5 (show n≤9223372036854775806 by omega)]
   refine Ev.pos (by omega) (Ev.pos (by omega) (Ev.pos (by omega) (Ev.pos (by omega) (Ev.ite (fun hc => Ev.eq (ih u (n + 1) k3 j3) ?_) (fun hc => Ev.done ?_)))))
   ·subst hc;simp
   ·simp [hc]
theorem eqInts_ev (l m:List Int) (hl:l.length≤9223372036854775806):Ev (fun k => ZI.f k l m) (decide (l = m)):=by
 unfold ZI.f
 refine Ev.ite (fun hc => eqInts_loop l m hl (by omega) l m 0 rfl rfl) (fun hc => Ev.done ?_)
 exact (decide_eq_false (fun e => hc (by rw [e]))).symm
theorem eqSpots_loop (l m:List S145) (hl:l.length≤9223372036854775806) (he:l.length = m.length):∀ (ra rb:List S145) (n:Nat),l.drop n = ra→m.drop n = rb→Ev (fun k => Zd.l0 k l m (l.length:Int) (n:Int)) (decide (ra.map Z3z = rb.map Z3z)):=by
 intro ra
 induction ra with
 | nil =>
  intro rb n h1 h2
  have h3:=ZE h1
  have:rb = []:=by rw [←h2];exact List.drop_eq_nil_of_le (by omega)
  subst this
  refine Ev.step (fun _ => rfl) ?_
  simp only [Zd.l0]
  exact Ev.neg (by omega) (Ev.done (by simp))
 | cons x t ih =>
  intro rb n h1 h2
  obtain ⟨k1,-,k3⟩:=Zi h1
  cases rb with
  | nil => have:=ZE h2;omega
  | cons y u =>
   obtain ⟨j1,-,j3⟩:=Zi h2
   refine Ev.step (fun _ => rfl) ?_
   simp only [Zd.l0,Z1G h1,Z1G h2,Z5 (show n≤9223372036854775806 by omega)]
   refine Ev.pos (by omega) (Ev.pos (by omega) (Ev.pos (by omega) (Ev.pos (by omega) (Ev.ite (fun hc => Ev.eq (ih u (n + 1) k3 j3) ?_) (fun hc => Ev.done ?_)))))
   ·simp only [Bool.and_eq_true,beq_iff_eq] at hc
    obtain ⟨e1,e2,e3,e4⟩:=hc
    have e1:=toList_inj.1 e1
    simp [Z3z,e1,e2,e3,e4]
   ·symm
    rw [decide_eq_false_iff_not]
    intro e
    simp only [List.map_cons,List.cons.injEq,Z3z,Prod.mk.injEq] at e
    obtain ⟨⟨e1,e2,e3,e4⟩,-⟩:=e
    simp [e1,e2,e3,e4] at hc
theorem eqSpots_ev (l m:List S145) (hl:l.length≤9223372036854775806):Ev (fun k => Zd.f k l m) (decide (l.map Z3z = m.map Z3z)):=by
 unfold Zd.f
 refine Ev.ite (fun hc => eqSpots_loop l m hl (by omega) l m 0 rfl rfl) (fun hc => Ev.done ?_)
 refine (decide_eq_false (fun e => hc ?_)).symm
 have:=congrArg List.length e
 simp only [List.length_map] at this
 rw [this]
theorem Z9A (s0:List Int) (a b c:Int) (s4:List Int) (dir:List S145) (st:Int) (t0:List Int) (a' b' c':Int) (t4:List Int) (dir':List S145) (st':Int) (h0:s0.length≤9223372036854775806) (h4:s4.length≤9223372036854775806) (h5:dir.length≤9223372036854775806):Ev (fun k => Z2K.f k s0 a b c s4 dir st t0 a' b' c' t4 dir' st') (Z2O s0 a b c s4 dir st t0 a' b' c' t4 dir' st'):=by
 have hm:Ev (fun k => Z1M.f k s0 a b c s4 t0 a' b' c' t4) (decide (s0 = t0) && (decide (a = a') && (decide (b = b') && (decide (c = c') && decide (s4 = t4))))):=by
  unfold Z1M.f
  refine Ev.bind (eqInts_ev s0 t0 h0) (Ev.ite (fun e2 => Ev.ite (fun e3 => Ev.ite (fun e4 => Ev.ite (fun e5 => Ev.bind (eqInts_ev s4 t4 h4) (Ev.done ?_)) (fun e5 => Ev.done ?_)) (fun e4 => Ev.done ?_)) (fun e3 => Ev.done ?_)) (fun e2 => Ev.done ?_))
  ·simp only [e2,e3,e4,e5,decide_true,Bool.true_and]
  ·simp [e5]
  ·simp [e4]
  ·simp [e3]
  ·rw [Bool.eq_false_iff.2 e2,Bool.false_and]
 unfold Z2K.f
 refine Ev.bind hm (Ev.ite (fun e1 => Ev.bind (eqSpots_ev dir dir' h5) (Ev.ite (fun e2 => Ev.done ?_) (fun e2 => Ev.done ?_))) (fun e1 => Ev.done ?_))
 ·simp only [Bool.and_eq_true] at e1
  unfold Z2O
  rw [e1.1,e1.2.1,e1.2.2.1,e1.2.2.2.1,e1.2.2.2.2,e2]
  simp only [Bool.and_true]
  exact Bool.eq_iff_iff.2 (by simp)
 ·unfold Z2O;rw [Bool.eq_false_iff.2 e2];simp
 ·unfold Z2O
  symm
  rw [Bool.eq_false_iff]
  intro h
  apply e1
  simp only [Bool.and_eq_true] at h ⊢
  exact ⟨h.2.1,h.2.2.1,h.2.2.2.1,h.2.2.2.2.1,h.2.2.2.2.2.1⟩
def putF (name text:ByteArray) (d:List S122):List S122:=d.filter (fun x => lessK x.f0 name)++[(⟨name,text⟩:S122)]++d.filter (fun x => lessK name x.f0)
theorem Zcq (d:List S122) (hd:d.length≤1048576) (name text:ByteArray):∀ (rest:List S122) (n:Nat) (acc:List S122),d.drop n = rest→acc.length + rest.length≤4000000 →
  Ev (fun k => Z0d.l1 k (n:Int) d name text acc) (acc++rest.filter fun x => lessK name x.f0):=by
 intro rest
 induction rest with
 | nil =>
  intro n acc h _
  have:=ZE h
  refine Ev.step (fun _ => rfl) ?_
  simp only [Z0d.l1]
  exact Ev.neg (by omega) (Ev.done (by simp))
 | cons x t ih =>
  intro n acc h h1
  obtain ⟨k1,-,k3⟩:=Zi h
  rw [List.length_cons] at h1
  refine Ev.step (fun _ => rfl) ?_
  simp only [Z0d.l1,Z2p h,Z5 (show n≤9223372036854775806 by omega)]
  refine Ev.pos (by omega) (Ev.pos (by omega) (Ev.ite (fun hc => Ev.pos (by omega) (Ev.eq (ih (n + 1) _ k3 (by simp;omega)) ?_)) (fun hc => Ev.eq (ih (n + 1) acc k3 (by omega)) ?_)))
  ·rw [List.filter_cons_of_pos (by exact hc)];simp
  ·rw [List.filter_cons_of_neg (by exact hc)]
theorem Zct (d:List S122) (hd:d.length≤1048576) (name text:ByteArray):∀ (rest:List S122) (n:Nat) (acc:List S122),d.drop n = rest→acc.length + rest.length≤1048576→acc++rest.filter (fun x => lessK x.f0 name) = d.filter (fun x => lessK x.f0 name) →
  Ev (fun k => Z0d.l0 k (n:Int) d name text acc) (putF name text d):=by
 intro rest
 induction rest with
 | nil =>
  intro n acc h h1 he
  have:=ZE h
  rw [List.filter_nil,List.append_nil] at he
  rw [List.length_nil] at h1
  refine Ev.step (fun _ => rfl) ?_
  simp only [Z0d.l0]
  refine Ev.neg (by omega) (Ev.pos (by omega) (Ev.eq (Zcq d hd name text d 0 _ rfl (by simp;omega)) ?_))
  rw [he];rfl
 | cons x t ih =>
  intro n acc h h1 he
  obtain ⟨k1,-,k3⟩:=Zi h
  rw [List.length_cons] at h1
  refine Ev.step (fun _ => rfl) ?_
  simp only [Z0d.l0,Z2p h,Z5 (show n≤9223372036854775806 by omega)]
  refine Ev.pos (by omega) (Ev.pos (by omega) (Ev.ite (fun hc => Ev.pos (by omega) (ih (n + 1) _ k3 (by simp;omega) ?_)) (fun hc => ih (n + 1) acc k3 (by omega) ?_)))
  ·rw [List.filter_cons_of_pos (by exact hc)] at he;rw [←he];simp
  ·rw [List.filter_cons_of_neg (by exact hc)] at he;exact he
theorem Z5B (d:List S122) (hd:d.length≤1048576) (name text:ByteArray):Ev (fun k => Z0d.f k d name text) (putF name text d) :=
 Zct d hd name text d 0 [] rfl (by simp;omega) (by simp)
theorem Z72 (name text:ByteArray) (d:List S122):(putF name text d).length≤2 * d.length + 1:=by
 have h1:=List.length_filter_le (fun x:S122 => lessK x.f0 name) d
 have h2:=List.length_filter_le (fun x:S122 => lessK name x.f0) d
 unfold putF
 simp only [List.length_append,List.length_singleton]
 omega
def dropF (name:ByteArray) (d:List S122):List S122:=d.filter fun x => !decide (x.f0 = name)
theorem Z8J (name:ByteArray) (d:List S122):(dropF name d).length≤d.length:=List.length_filter_le _ _
theorem ZaZ (name:ByteArray) (d:List S122) (hd:d.length≤1048576):∀ (rest:List S122) (n:Nat) (acc:List S122),d.drop n = rest→acc.length + rest.length≤1048576 →
  Ev (fun k => Z0W.l0 k name (n:Int) d acc) (acc++dropF name rest):=by
 intro rest
 induction rest with
 | nil =>
  intro n acc h _
  have:=ZE h
  refine Ev.step (fun _ => rfl) ?_
  simp only [Z0W.l0]
  exact Ev.neg (by omega) (Ev.done (by simp [dropF]))
 | cons x t ih =>
  intro n acc h h1
  obtain ⟨k1,-,k3⟩:=Zi h
  rw [List.length_cons] at h1
  refine Ev.step (fun _ => rfl) ?_
  simp only [Z0W.l0,Z2p h,Z5 (show n≤9223372036854775806 by omega)]
  refine Ev.pos (by omega) (Ev.pos (by omega) (Ev.ite (fun hc => Ev.eq (ih (n + 1) acc k3 (by omega)) ?_) (fun hc => Ev.pos (by omega) (Ev.eq (ih (n + 1) _ k3 (by simp;omega)) ?_))))
  ·unfold dropF;rw [List.filter_cons_of_neg (by simp [toList_inj.1 hc])]
  ·unfold dropF;rw [List.filter_cons_of_pos (by simp;exact fun e => hc (by rw [e]))];simp
theorem Z6P (d:List S122) (hd:d.length≤1048576) (name:ByteArray):Ev (fun k => Z0W.f k d name) (dropF name d) :=
 Ev.eq (ZaZ name d hd d 0 [] rfl (by simp;omega)) (by simp)
def Z0q (d:List S122) (r:S119):List S122 :=
 if r.f0 = 1 then putF r.f1 r.f3 d else if r.f0 = 2 then putF r.f1 (Zn r.f1 d++r.f3) d else if r.f0 = 3 then (if r.f2 = r.f1 then d else putF r.f2 (Zn r.f1 d) (dropF r.f1 d)) else dropF r.f1 d
def Z1F (d:List S122) (r:S119):List S122×Bool :=
 if (ZT d && (inR r.f0 1 4 && (decide (r.f0 < 3) || stands (Z8 r.f1) d))) = true then (if ZT (Z0q d r) = true then (Z0q d r,true) else ([],false)) else ([],false)
theorem Z8E (t:List S122) (ht:t.length≤1048576):Ev (fun k => (ZO.f k t).bind fun b => if b = true then some (t,true) else some ([],false)) (if ZT t = true then (t,true) else ([],false)):=by
 refine Ev.bind (Z2C t ht) ?_
 cases ZT t
 ·exact Ev.neg (by simp) (Ev.now _)
 ·exact Ev.pos rfl (Ev.now _)
theorem Zcr (d:List S122) (hd:ZT d = true) (r:S119) (h3:r.f3.size≤1000000000):Ev (fun k => Z0g.f k d r.f0 r.f1 r.f2 r.f3) (Z1F d r):=by
 obtain ⟨hdl,hu⟩:=Z0z hd
 have hl:d.length≤1048576:=by omega
 have no:∀ x6:Int,Ev (fun k => Z0g.j0 k x6 true d r.f0 r.f1 r.f2 r.f3) ([],false):=fun x6 => by
  refine Ev.step (fun _ => rfl) ?_
  simp only [Z0g.j0]
  exact Ev.pos trivial (Ev.now _)
 have go:∀ x6:Int,inR r.f0 1 4 = true→(r.f0 = 3→stands (Z8 r.f1) d = true∧x6 = ((Z08 (Z8 r.f1) d:Nat):Int))→Ev (fun k => Z0g.j0 k x6 false d r.f0 r.f1 r.f2 r.f3) (if ZT (Z0q d r) = true then (Z0q d r,true) else ([],false)):=fun x6 hk hx => by
  have hk:=Zr.1 hk
  have ht:=Z3b hd r.f1
  refine Ev.step (fun _ => rfl) ?_
  simp only [Z0g.j0]
  refine Ev.neg (by simp) (Ev.call rfl (Ev.pos (by simp;omega) (Ev.call rfl ?_)))
  rw [List.nil_append]
  unfold Z0q
  refine Ev.ite (fun e1 => ?_) (fun e1 => Ev.ite (fun e2 => ?_) (fun e2 => Ev.ite (fun e3 => ?_) (fun e3 => ?_)))
  ·rw [if_pos e1]
   have:=Z72 r.f1 r.f3 d
   exact Ev.bind (Z5B d hl r.f1 r.f3) (Z8E _ (by omega))
  ·rw [if_neg e1,if_pos e2]
   have:=Z72 r.f1 (Zn r.f1 d++r.f3) d
   exact Ev.bind (Z3F d hl hu r.f1) (Ev.pos (by omega) (Ev.bind (Z5B d hl r.f1 _) (Z8E _ (by omega))))
  ·rw [if_neg e1,if_neg e2,if_pos e3]
   obtain ⟨hs,rfl⟩:=hx e3
   have:=Z8J r.f1 d
   refine Ev.ite (fun e4 => ?_) (fun e4 => ?_)
   ·rw [show (if r.f2 = r.f1 then d else putF r.f2 (Zn r.f1 d) (dropF r.f1 d)) = d from if_pos (toList_inj.1 e4)];exact Z8E _ hl
   ·rw [show (if r.f2 = r.f1 then d else putF r.f2 (Zn r.f1 d) (dropF r.f1 d)) = putF r.f2 (Zn r.f1 d) (dropF r.f1 d) from if_neg (fun e => e4 (by rw [e]))]
    obtain ⟨x,hx1,-⟩:=Z4I hs
    obtain ⟨h1,-⟩:=List.getElem?_eq_some_iff.1 hx1
    have et:(Z0k d ((Z08 (Z8 r.f1) d:Nat):Int)).f1 = Zn r.f1 d:=by unfold Zn;rw [if_pos hs]
    rw [et]
    have:=Z72 r.f2 (Zn r.f1 d) (dropF r.f1 d)
    exact Ev.bind (Z6P d hl r.f1) (Ev.pos (by omega) (Ev.pos (by omega) (Ev.bind (Z5B _ (by omega) r.f2 _) (Z8E _ (by omega)))))
  ·rw [if_neg e1,if_neg e2,if_neg e3]
   have:=Z8J r.f1 d
   exact Ev.pos (by omega) (Ev.bind (Z6P d hl r.f1) (Z8E _ (by omega)))
 unfold Z0g.f Z1F
 refine Ev.bind (Z4i d hl hu r.f1) (Ev.bind (Z2C d hl) ?_)
 rw [hd]
 refine Ev.pos rfl (Ev.call (Z0m _ _ _) ?_)
 cases hk:inR r.f0 1 4
 ·exact Ev.neg (by simp) (Ev.eq (no _) (by simp))
 refine Ev.pos rfl ?_
 unfold Z6O
 cases hs:stands (Z8 r.f1) d
 ·rw [if_neg (by simp)]
  refine Ev.pos (by omega) ?_
  by_cases h4:r.f0≥3
  ·rw [decide_eq_true h4]
   exact Ev.eq (no _) (by rw [decide_eq_false (show ¬ r.f0 < 3 by omega)];simp)
  ·rw [decide_eq_false h4]
   exact Ev.eq (go _ hk (fun e => absurd (by omega) h4)) (by rw [decide_eq_true (show r.f0 < 3 by omega)];simp)
 ·rw [if_pos rfl]
  exact Ev.neg (by omega) (Ev.eq (go _ hk (fun _ => ⟨hs,rfl⟩)) (by simp))
theorem ZaO (key:ByteArray) (x:S122) (t:List S122):Z08 (Z8 key) (x::t) = Z08 (Z8 key) t + (if lessK x.f0 key = true then 1 else 0):=by
 unfold Z08
 rw [List.countP_cons]
 congr 1
 by_cases h:lessK x.f0 key = true
 ·rw [if_pos h,if_pos (by rw [decide_eq_true_iff,Z7G];exact h)]
 ·rw [if_neg h,if_neg (by rw [decide_eq_true_iff,Z7G];exact h)]
theorem fup_none {key:ByteArray} {x:S122} {t:List S122} (h:Z1S (x::t)) (hx:¬ lessK x.f0 key = true):∀ y∈t,¬ lessK y.f0 key = true:=fun y hy e => hx (Z1Y ((List.pairwise_cons.mp h).1 y hy) e)
theorem fahead_none {key:ByteArray} {t:List S122} (h:∀ y∈t,¬ lessK y.f0 key = true):Z08 (Z8 key) t = 0:=by
 unfold Z08
 rw [List.countP_eq_zero]
 intro y hy
 rw [decide_eq_true_iff,Z7G]
 exact h y hy
theorem Z58 (key:ByteArray):∀ (l:List S122),Z1S l→l.take (Z08 (Z8 key) l) = l.filter (fun x => lessK x.f0 key)∧l.drop (Z08 (Z8 key) l) = l.filter (fun x => !lessK x.f0 key)
 | [],_ => by simp
 | x::t,h => by
  by_cases hx:lessK x.f0 key = true
  ·obtain ⟨h1,h2⟩:=Z58 key t (List.pairwise_cons.mp h).2
   rw [ZaO,if_pos hx,List.take_succ_cons,List.drop_succ_cons,List.filter_cons_of_pos (by exact hx),List.filter_cons_of_neg (by simp [hx]),h1,h2]
   exact ⟨rfl,rfl⟩
  ·have hn:=fup_none h hx
   rw [ZaO,if_neg hx,fahead_none hn]
   refine ⟨?_,?_⟩
   ·rw [List.filter_eq_nil_iff.mpr (fun y hy => by rcases List.mem_cons.1 hy with rfl | hy;exact hx;exact hn y hy)];rfl
   ·rw [List.filter_eq_self.mpr (fun y hy => by rcases List.mem_cons.1 hy with rfl | hy;(simp [hx]);(simp [hn y hy]))];rfl
theorem ZcQ (key:ByteArray) {l:List S122} (h:Z1S l) :
  (stands (Z8 key) l = true→Z08 (Z8 key) l < l.length∧l.drop (Z08 (Z8 key) l + 1) = l.filter (fun x => lessK key x.f0)) ∧
  (stands (Z8 key) l = false→l.drop (Z08 (Z8 key) l) = l.filter (fun x => lessK key x.f0)):=by
 have hd:=(Z58 key l h).2
 have hf:∀ {t:List S122},(∀ x∈t,lessK key x.f0 = true)→∀ {a:List S122},l = a++t→(∀ x∈a,¬ lessK key x.f0 = true)→l.filter (fun x => lessK key x.f0) = t:=by
  intro t ht a hl ha
  rw [hl,List.filter_append,List.filter_eq_nil_iff.mpr (fun x hx => ha x hx),List.filter_eq_self.mpr (fun x hx => ht x hx),List.nil_append]
 have ht:∀ x∈l.take (Z08 (Z8 key) l),¬ lessK key x.f0 = true:=by
  intro x hx e
  rw [(Z58 key l h).1] at hx
  have:=Z1Y e (List.mem_filter.1 hx).2
  rw [Z50] at this;cases this
 have hup:Z1S (l.drop (Z08 (Z8 key) l)):=List.Pairwise.sublist (List.drop_sublist _ _) h
 have hge:∀ x∈l.drop (Z08 (Z8 key) l),¬ lessK x.f0 key = true:=by
  intro x hx
  rw [hd] at hx
  simpa using (List.mem_filter.1 hx).2
 unfold stands
 rw [←List.head?_drop]
 cases hq:l.drop (Z08 (Z8 key) l) with
 | nil =>
  refine ⟨fun e => by simp at e,fun _ => ?_⟩
  exact (hf (t:=[]) (by simp) (a:=l.take (Z08 (Z8 key) l)) (by rw [←hq,List.take_append_drop]) ht).symm
 | cons m t =>
  rw [hq] at hup hge
  have hlt:Z08 (Z8 key) l < l.length:=by
   rcases Nat.lt_or_ge (Z08 (Z8 key) l) l.length with h1 | h1
   ·exact h1
   ·rw [List.drop_eq_nil_of_le h1] at hq;cases hq
  have hl:l = l.take (Z08 (Z8 key) l)++(m::t):=by rw [←hq,List.take_append_drop]
  have ht1:l.drop (Z08 (Z8 key) l + 1) = t:=by rw [←List.drop_drop,hq];rfl
  simp only [List.head?_cons,decide_eq_true_iff,decide_eq_false_iff_not,name_eq]
  refine ⟨fun e => ⟨hlt,?_⟩,fun e => ?_⟩
  ·rw [ht1]
   refine (hf (t:=t) (fun x hx => ?_) (a:=l.take (Z08 (Z8 key) l)++[m]) (by rw [List.append_assoc];exact hl) (fun x hx => ?_)).symm
   ·have:=(List.pairwise_cons.mp hup).1 x hx
    unfold lessK at this ⊢
    rw [←e];exact this
   ·rcases List.mem_append.1 hx with hx | hx
    ·exact ht x hx
    ·rw [List.mem_singleton] at hx
     unfold lessK
     rw [hx,e,Z50];simp
  ·refine (hf (t:=m::t) (fun x hx => ?_) hl ht).symm
   have hm:lessK key m.f0 = true:=by
    cases hc:lessK key m.f0
    ·exact absurd (ZaK (by simpa [lessK] using hge m List.mem_cons_self) hc) e
    ·rfl
   rcases List.mem_cons.1 hx with rfl | hx
   ·exact hm
   ·exact Z1Y hm ((List.pairwise_cons.mp hup).1 x hx)
theorem Z7C (d:List S122) (hu:Z1S d) (hl:d.length≤1048576) (name text:ByteArray):Ev (fun k => Z29.f k d name text) (putF name text d):=by
 have ha:=Z6u (Z8 name) d
 obtain ⟨g1,g2⟩:=ZcQ name hu
 have ht:=(Z58 name d hu).1
 unfold Z29.f Z0Q.f
 rw [if_pos (by omega),List.nil_append]
 refine Ev.call rfl (Ev.bind (Z5w d hl hu name) ?_)
 cases hs:stands (Z8 name) d
 ·refine Ev.neg (by simp) ?_
  unfold Z0F.f insO
  dsimp only
  rw [if_pos (by omega),if_pos (by omega),if_pos (by omega),Option.bind_some,Option.bind_some]
  refine Ev.done ?_
  rw [Int.toNat_natCast,ht,g2 hs]
  unfold putF
  simp
 ·obtain ⟨x,hx,hxe⟩:=Z4I hs
  obtain ⟨h1,h2⟩:=g1 hs
  refine Ev.pos rfl (Ev.pos (by omega) (Ev.pos (by omega) (Ev.done ?_)))
  have er:(Z0k d ((Z08 (Z8 name) d:Nat):Int)).f0 = name:=by
   rw [Z9B h1] at hx
   injection hx with hx
   rw [hx];exact toList_inj.1 hxe
  dsimp only
  rw [er,Int.toNat_natCast,List.set_eq_take_append_cons_drop,if_pos h1,ht,h2]
  unfold putF
  simp
theorem lt_ne {a b:ByteArray} (h:lessK a b = true):a≠b:=fun e => by subst e;rw [Z2Z] at h;cases h
theorem dropF_parts (name:ByteArray) {d:List S122} (hu:Z1S d):d.filter (fun x => lessK x.f0 name)++d.filter (fun x => lessK name x.f0) = dropF name d:=by
 induction d with
 | nil => rfl
 | cons x t ih =>
  have ht:=(List.pairwise_cons.mp hu).2
  have ih:=ih ht
  unfold dropF at ih ⊢
  rcases lt_tri x.f0 name with h | h | h
  ·have h':¬ lessK name x.f0 = true:=fun e => by have:=Z1H h e;rw [Z2Z] at this;cases this
   rw [List.filter_cons_of_pos (by exact h),List.filter_cons_of_neg (by exact h'),List.filter_cons_of_pos (by simpa using lt_ne h),List.cons_append,ih]
  ·have h1:¬ lessK x.f0 name = true:=by rw [h,Z2Z];simp
   have h2:¬ lessK name x.f0 = true:=by rw [h,Z2Z];simp
   rw [List.filter_cons_of_neg (by exact h1),List.filter_cons_of_neg (by exact h2),List.filter_cons_of_neg (by simp [h]),ih]
  ·have hn:∀ y∈t,¬ lessK y.f0 name = true:=fun y hy e => by
    have:=Z1H (Z1H h ((List.pairwise_cons.mp hu).1 y hy)) e
    rw [Z2Z] at this;cases this
   have h':¬ lessK x.f0 name = true:=fun e => by have:=Z1H h e;rw [Z2Z] at this;cases this
   have e0:t.filter (fun x => lessK x.f0 name) = []:=List.filter_eq_nil_iff.mpr hn
   rw [e0,List.nil_append] at ih
   rw [List.filter_cons_of_neg (by exact h'),List.filter_cons_of_pos (by exact h),List.filter_cons_of_pos (by simpa using (lt_ne h).symm),e0,List.nil_append,ih]
theorem ZaJ (name:ByteArray) {d:List S122} (hu:Z1S d):Z1S (dropF name d):=List.Pairwise.filter _ hu
theorem ZcU (d:List S122) (hu:Z1S d) (hl:d.length≤1048576) (name:ByteArray):Ev (fun k => Z30.f k d name) (dropF name d):=by
 have ha:=Z6u (Z8 name) d
 obtain ⟨g1,g2⟩:=ZcQ name hu
 have ht:=(Z58 name d hu).1
 unfold Z30.f Z0Q.f
 rw [if_pos (by omega),List.nil_append]
 refine Ev.call rfl (Ev.bind (Z5w d hl hu name) ?_)
 rw [←dropF_parts name hu]
 cases hs:stands (Z8 name) d
 ·refine Ev.neg (by simp) (Ev.done ?_)
  rw [←ht,←g2 hs,List.take_append_drop]
 ·obtain ⟨h1,h2⟩:=g1 hs
  refine Ev.pos rfl ?_
  unfold Z0D.f delO
  dsimp only
  rw [Z5 (show Z08 (Z8 name) d≤9223372036854775806 by omega),if_pos (by omega),if_pos (by omega),if_pos (by omega),Option.bind_some]
  refine Ev.done ?_
  rw [Int.toNat_natCast,ht,h2]
theorem Z8u (t:List S122) (ht:t.length≤1048576):Ev (fun k => (Z02.f k t).bind fun b => if b = true then some (t,true) else some ([],false)) (if ZT t = true then (t,true) else ([],false)):=by
 refine Ev.bind (Z3i t ht) ?_
 cases ZT t
 ·exact Ev.neg (by simp) (Ev.now _)
 ·exact Ev.pos rfl (Ev.now _)
theorem Zcm (d:List S122) (hd:ZT d = true) (r:S119) (h3:r.f3.size≤1000000000):Ev (fun k => Z41.f k d r.f0 r.f1 r.f2 r.f3) (Z1F d r):=by
 obtain ⟨hdl,hu⟩:=Z0z hd
 have hl:d.length≤1048576:=by omega
 have ht:=Z3b hd r.f1
 unfold Z41.f Z1F
 refine Ev.bind (Z3i d hl) ?_
 rw [hd,Bool.true_and]
 refine Ev.pos rfl (Ev.bind (Z2F d hd r.f1) ?_)
 dsimp only
 refine Ev.ite (fun e1 => ?_) (fun e1 => Ev.ite (fun e2 => ?_) (fun e2 => Ev.ite (fun e3 => ?_) (fun e3 => Ev.ite (fun e4 => ?_) (fun e4 => Ev.done ?_))))
 ·have hc:(inR r.f0 1 4 && (decide (r.f0 < 3) || stands (Z8 r.f1) d)) = true:=by rw [e1];rfl
  have:=Z72 r.f1 r.f3 d
  have ep:Z0q d r = putF r.f1 r.f3 d:=by unfold Z0q;rw [if_pos e1]
  rw [if_pos hc,ep]
  exact Ev.bind (Z7C d hu hl r.f1 r.f3) (Z8u _ (by omega))
 ·have hc:(inR r.f0 1 4 && (decide (r.f0 < 3) || stands (Z8 r.f1) d)) = true:=by rw [e2];rfl
  have:=Z72 r.f1 (Zn r.f1 d++r.f3) d
  have ep:Z0q d r = putF r.f1 (Zn r.f1 d++r.f3) d:=by unfold Z0q;rw [if_neg e1,if_pos e2]
  rw [if_pos hc,ep]
  exact Ev.pos (by omega) (Ev.bind (Z7C d hu hl r.f1 _) (Z8u _ (by omega)))
 ·have hc:(inR r.f0 1 4 && (decide (r.f0 < 3) || stands (Z8 r.f1) d)) = stands (Z8 r.f1) d:=by rw [e3];rfl
  have hdl2:=Z8J r.f1 d
  have:=Z72 r.f2 (Zn r.f1 d) (dropF r.f1 d)
  refine Ev.call (by unfold Z0Q.f;rw [if_pos (by omega),List.nil_append]) (Ev.ite (fun e5 => ?_) (fun e5 => ?_))
  ·have ep:Z0q d r = d:=by unfold Z0q;rw [if_neg e1,if_neg e2,if_pos e3,if_pos (toList_inj.1 e5).symm]
   rw [hc,ep]
   cases stands (Z8 r.f1) d
   ·exact Ev.neg (by simp) (Ev.now _)
   ·exact Ev.pos rfl (Z8u _ hl)
  ·have ep:Z0q d r = putF r.f2 (Zn r.f1 d) (dropF r.f1 d):=by unfold Z0q;rw [if_neg e1,if_neg e2,if_pos e3,if_neg (fun e => e5 (by rw [e]))]
   rw [hc,ep]
   refine Ev.bind (ZcU d hu hl r.f1) (Ev.bind (Z7C _ (ZaJ r.f1 hu) (by omega) r.f2 _) ?_)
   cases stands (Z8 r.f1) d
   ·exact Ev.neg (by simp) (Ev.now _)
   ·exact Ev.pos rfl (Z8u _ (by omega))
 ·have hc:(inR r.f0 1 4 && (decide (r.f0 < 3) || stands (Z8 r.f1) d)) = stands (Z8 r.f1) d:=by rw [e4];rfl
  have hdl2:=Z8J r.f1 d
  have ep:Z0q d r = dropF r.f1 d:=by unfold Z0q;rw [if_neg e1,if_neg e2,if_neg e3]
  rw [hc,ep]
  refine Ev.bind (ZcU d hu hl r.f1) ?_
  cases stands (Z8 r.f1) d
  ·exact Ev.neg (by simp) (Ev.now _)
  ·exact Ev.pos rfl (Z8u _ (by omega))
 ·have hc:inR r.f0 1 4 = false:=Zbz.2 (by omega)
  rw [hc,Bool.false_and]
  rfl
def Z1k:List S119→List S122→Nat→List S122×Nat
 | [],d,n => (d,n)
 | r::t,d,n => if (Z1F d r).2 = true then Z1k t (Z1F d r).1 (n + 1) else (d,n)
theorem Z8Q {d:List S122} {r:S119} (h:(Z1F d r).2 = true):ZT (Z1F d r).1 = true:=by
 unfold Z1F at h ⊢
 split at h
 ·rename_i h1
  rw [if_pos h1]
  split at h
  ·rename_i h2;rw [if_pos h2];exact h2
  ·cases h
 ·cases h
theorem Z9l (l:List S119) (hl:l.length≤1048576) (h3:∀ r∈l,r.f3.size≤1000000000):∀ (rest:List S119) (n:Nat) (d:List S122),l.drop n = rest→n≤l.length→ZT d = true→Ev (fun k => Zg.l0 k l (n:Int) d) ((Z1k rest d n).1,((Z1k rest d n).2:Int)):=by
 intro rest
 induction rest with
 | nil =>
  intro n d h hn hd
  have:=ZE h
  refine Ev.step (fun _ => rfl) ?_
  simp only [Zg.l0,Z1k]
  exact Ev.neg (by omega) (Ev.done (by rw [show l.length = n by omega]))
 | cons x t ih =>
  intro n d h hn hd
  obtain ⟨h1,-,h4⟩:=Zi h
  have hx:=h3 x (List.mem_of_mem_drop (h ▸ List.mem_cons_self))
  refine Ev.step (fun _ => rfl) ?_
  simp only [Zg.l0,Zc8 h,Z5 (show n≤9223372036854775806 by omega)]
  rw [Z1k]
  refine Ev.pos (by omega) (Ev.pos (by omega) (Ev.bind (Zcr d hd x hx) (Ev.ite (fun hc => ?_) (fun hc => Ev.done (by rw [if_neg hc])))))
  rw [if_pos hc]
  exact ih (n + 1) _ h4 (by omega) (Z8Q hc)
def ZF (d:List S122) (l:List S119):List S122×Int:=if (ZT d && decide (l.length≤60)) = true then ((Z1k l d 0).1,((Z1k l d 0).2:Int)) else ([],0)
theorem Z2T (d:List S122) (hd:d.length≤1048576) (l:List S119) (hl:l.length≤1048576) (h3:∀ r∈l,r.f3.size≤1000000000):Ev (fun k => Zg.f k d l) (ZF d l):=by
 have no:Ev (fun k => Zg.j0 k l true d) ([],0):=by
  refine Ev.step (fun _ => rfl) ?_
  simp only [Zg.j0]
  exact Ev.pos trivial (Ev.now _)
 unfold Zg.f ZF
 refine Ev.bind (Z2C d hd) ?_
 cases hk:ZT d
 ·exact Ev.neg (by simp) (Ev.eq no (by simp))
 refine Ev.pos rfl ?_
 by_cases hc:l.length≤60
 ·rw [decide_eq_false (show ¬ (l.length:Int) > 60 by omega),decide_eq_true hc]
  refine Ev.step (fun _ => rfl) ?_
  simp only [Zg.j0]
  have hdl:=(Z0z hk).1
  refine Ev.neg (by simp) (Ev.call rfl (Ev.pos (by simp;omega) ?_))
  rw [List.nil_append]
  exact Ev.eq (Z9l l hl h3 l 0 d rfl (by omega) hk) (by simp)
 ·rw [decide_eq_true (show (l.length:Int) > 60 by omega),decide_eq_false hc]
  exact Ev.eq no (by simp)
theorem Z9C (l:List S119) (hl:l.length≤1048576) (h3:∀ r∈l,r.f3.size≤1000000000) (z:List S122):∀ (rest:List S119) (n:Nat) (d:List S122),l.drop n = rest→n≤l.length→ZT d = true→Ev (fun k => Z18.l0 k l l (l.length:Int) (n:Int) z d) ((Z1k rest d n).1,((Z1k rest d n).2:Int)):=by
 intro rest
 induction rest with
 | nil =>
  intro n d h hn hd
  have:=ZE h
  refine Ev.step (fun _ => rfl) ?_
  simp only [Z18.l0,Z1k]
  exact Ev.neg (by omega) (Ev.done (by rw [show l.length = n by omega]))
 | cons x t ih =>
  intro n d h hn hd
  obtain ⟨h1,-,h4⟩:=Zi h
  have hx:=h3 x (List.mem_of_mem_drop (h ▸ List.mem_cons_self))
  refine Ev.step (fun _ => rfl) ?_
  simp only [Z18.l0,Zc8 h,Z5 (show n≤9223372036854775806 by omega)]
  rw [Z1k]
  refine Ev.pos (by omega) (Ev.pos (by omega) (Ev.pos (by omega) (Ev.bind (Zcm d hd x hx) (Ev.ite (fun hc => ?_) (fun hc => Ev.done (by rw [if_neg hc]))))))
  rw [if_pos hc]
  exact ih (n + 1) _ h4 (by omega) (Z8Q hc)
theorem ZbF (d:List S122) (hd:d.length≤1048576) (l:List S119) (hl:l.length≤1048576) (h3:∀ r∈l,r.f3.size≤1000000000):Ev (fun k => Z18.f k d l) (ZF d l):=by
 unfold Z18.f ZF
 refine Ev.bind (Z3i d hd) ?_
 cases hk:ZT d
 ·exact Ev.neg (by simp) (Ev.done (by simp))
 refine Ev.pos rfl (Ev.ite (fun hc => Ev.done ?_) (fun hc => ?_))
 ·rw [decide_eq_false (show ¬ l.length≤60 by omega)];simp
 ·have hdl:=(Z0z hk).1
  rw [decide_eq_true (show l.length≤60 by omega)]
  refine Ev.call (by unfold Z0Q.f;rw [if_pos (by omega),List.nil_append]) ?_
  exact Ev.eq (Z9C l hl h3 [] l 0 d rfl (by omega) hk) (by simp)
def openIs (rb:RBf) (rm:RMf) (d:List S122) (s0:List Int) (a b c:Int) (s4:List Int) (dir:List S145) (st:Int):Bool :=
 decide ((ZL rb rm d).2.2.2.2.2.2.2.2 = 0) && (decide ((ZL rb rm d).2.2.2.2.2.2.2.1 = []) && Z2O s0 a b c s4 dir st (ZL rb rm d).1 (ZL rb rm d).2.1 (ZL rb rm d).2.2.1 (ZL rb rm d).2.2.2.1 (ZL rb rm d).2.2.2.2.1 (ZL rb rm d).2.2.2.2.2.1 (ZL rb rm d).2.2.2.2.2.2.1)
theorem Z5T {l:List S119}:(l.length:Int) = 0↔l = []:=by rw [←List.length_eq_zero_iff];omega
theorem Z6h (rb:RBf) (hrb:∀ c,c.size≤9000→RB c (rb c)) (rm:RMf) (hrm:∀ s,s.size≤1000000→RM s (rm s)) (d:List S122) (hl:d.length≤1048576) (s0:List Int) (a b c:Int) (s4:List Int) (dir:List S145) (st:Int) (h0:s0.length≤1048576) (h4:s4.length≤1048576) (h5:dir.length≤1048576):Ev (fun k => Z28.f k d s0 a b c s4 dir st) (openIs rb rm d s0 a b c s4 dir st):=by
 unfold Z28.f openIs
 refine Ev.bind (Z4C rb hrb rm hrm d hl) (Ev.ite (fun e1 => Ev.ite (fun e2 => Ev.bind (ZbK s0 a b c s4 dir st _ _ _ _ _ _ _ (by omega) (by omega) (by omega)) (Ev.done ?_)) (fun e2 => Ev.done ?_)) (fun e1 => Ev.done ?_))
 ·rw [decide_eq_true e1,decide_eq_true (Z5T.1 e2)];simp
 ·rw [decide_eq_false (fun h => e2 (Z5T.2 h))];simp
 ·rw [decide_eq_false e1];simp
theorem Zcs (rb:RBf) (hrb:∀ c,c.size≤9000→RB c (rb c)) (rm:RMf) (hrm:∀ s,s.size≤1000000→RM s (rm s)) (d:List S122) (hl:d.length≤1048576) (s0:List Int) (a b c:Int) (s4:List Int) (dir:List S145) (st:Int):Ev (fun k => Z42.f k d s0 a b c s4 dir st) (openIs rb rm d s0 a b c s4 dir st):=by
 obtain ⟨w0,w4,w5,-⟩:=ZdA (rb:=rb) hrm d
 unfold Z42.f openIs
 refine Ev.bind (Z3L rb hrb rm hrm d hl) (Ev.ite (fun e1 => Ev.ite (fun e2 => Ev.bind (Z9A _ _ _ _ _ _ _ s0 a b c s4 dir st (by omega) (by omega) (by omega)) (Ev.done ?_)) (fun e2 => Ev.done ?_)) (fun e1 => Ev.done ?_))
 ·rw [decide_eq_true e1,decide_eq_true (Z5T.1 e2),shelfEq_symm];simp
 ·rw [decide_eq_false (fun h => e2 (Z5T.2 h))];simp
 ·rw [decide_eq_false e1];simp
abbrev Aft:=List Int×Int×Int×Int×List Int×List S145×Int×List S119×Bool
def noAft:Aft:=([],0,0,0,[],[],0,[],false)
def Z3E (rb:RBf) (rm:RMf) (d:List S122) (l:List S119):Aft :=
 if (ZF d l).2 = (l.length:Int)∧(ZL rb rm (ZF d l).1).2.2.2.2.2.2.2.2 = 0∧(ZL rb rm (ZF d l).1).2.2.2.2.2.2.2.1 = [] then
  ((ZL rb rm (ZF d l).1).1,(ZL rb rm (ZF d l).1).2.1,(ZL rb rm (ZF d l).1).2.2.1,(ZL rb rm (ZF d l).1).2.2.2.1,(ZL rb rm (ZF d l).1).2.2.2.2.1,(ZL rb rm (ZF d l).1).2.2.2.2.2.1,(ZL rb rm (ZF d l).1).2.2.2.2.2.2.1,l,true)
 else noAft
theorem Z3X:∀ (l:List S119) (d:List S122) (n:Nat),ZT d = true→ZT (Z1k l d n).1 = true∧(Z1k l d n).2≤n + l.length
 | [],d,n,h => ⟨h,by simp [Z1k]⟩
 | r::t,d,n,h => by
  rw [Z1k]
  split
  ·rename_i hc
   have:=Z3X t (Z1F d r).1 (n + 1) (Z8Q hc)
   refine ⟨this.1,?_⟩
   have:=this.2
   simp only [List.length_cons];omega
  ·exact ⟨h,by simp⟩
theorem Z7r (d:List S122) (l:List S119):(ZF d l).1.length≤30∧0≤(ZF d l).2∧(ZF d l).2≤(l.length:Int):=by
 unfold ZF
 split
 ·rename_i h
  simp only [Bool.and_eq_true] at h
  obtain ⟨h1,h2⟩:=Z3X l d 0 h.1
  have:=(Z0z h1).1
  dsimp only
  omega
 ·simp
theorem Z6j (rb:RBf) (hrb:∀ c,c.size≤9000→RB c (rb c)) (rm:RMf) (hrm:∀ s,s.size≤1000000→RM s (rm s)) (d:List S122) (hl:d.length≤1048576) (l:List S119) (hll:l.length≤1048576) (h3:∀ r∈l,r.f3.size≤1000000000):∃ z,Ev (fun k => Z1Q.f k d l) z∧z.2.2.2.2.2.2.2 = (Z3E rb rm d l).2.2.2.2.2.2.2.2∧(z.2.2.2.2.2.2.2 = true→Z3E rb rm d l = (z.1,z.2.1,z.2.2.1,z.2.2.2.1,z.2.2.2.2.1,z.2.2.2.2.2.1,z.2.2.2.2.2.2.1,l,true)):=by
 obtain ⟨p1,p2,p3⟩:=Z7r d l
 have hp:=Z2T d hl l hll h3
 have ho:=Z4C rb hrb rm hrm (ZF d l).1 (by omega)
 unfold Z1Q.f Z3E
 by_cases e1:(ZF d l).2 = (l.length:Int)
 ·by_cases e2:(ZL rb rm (ZF d l).1).2.2.2.2.2.2.2.2 = 0
  ·refine ⟨_,Ev.bind hp (Ev.pos e1 (Ev.bind ho (Ev.pos e2 (Ev.now _)))),?_,?_⟩
   ·by_cases e3:(ZL rb rm (ZF d l).1).2.2.2.2.2.2.2.1 = []
    ·rw [if_pos ⟨e1,e2,e3⟩,e3];rfl
    ·rw [if_neg (fun h => e3 h.2.2)]
     show ((_:Int) == 0) = false
     rw [beq_eq_false_iff_ne]
     exact fun h => e3 (Z5T.1 h)
   ·intro h
    have e3:=Z5T.1 (by simpa using h)
    rw [if_pos ⟨e1,e2,e3⟩]
  ·refine ⟨_,Ev.bind hp (Ev.pos e1 (Ev.bind ho (Ev.neg e2 (Ev.now _)))),?_,fun h => by cases h⟩
   rw [if_neg (fun h => e2 h.2.1)];rfl
 ·refine ⟨_,Ev.bind hp (Ev.neg e1 (Ev.now _)),?_,fun h => by cases h⟩
  rw [if_neg (fun h => e1 h.1)];rfl
theorem Zcn (rb:RBf) (hrb:∀ c,c.size≤9000→RB c (rb c)) (rm:RMf) (hrm:∀ s,s.size≤1000000→RM s (rm s)) (d:List S122) (hl:d.length≤1048576) (l:List S119) (hll:l.length≤1048576) (h3:∀ r∈l,r.f3.size≤1000000000):Ev (fun k => Z2M.f k d l) (Z3E rb rm d l):=by
 obtain ⟨p1,p2,p3⟩:=Z7r d l
 unfold Z2M.f Z3E
 refine Ev.bind (ZbF d hl l hll h3) (Ev.bind (Z3L rb hrb rm hrm (ZF d l).1 (by omega)) (Ev.ite (fun e1 => Ev.done ?_) (fun e1 => Ev.ite (fun e2 => Ev.ite (fun e3 => Ev.done ?_) (fun e3 => Ev.done ?_)) (fun e2 => Ev.done ?_))))
 ·rw [if_neg (fun h => by have:=h.1;omega)];rfl
 ·rw [if_neg (fun h => by rw [h.2.2] at e3;simp at e3)];rfl
 ·rw [if_pos ⟨by omega,e2,Z5T.1 (by omega)⟩]
 ·rw [if_neg (fun h => e2 h.2.1)];rfl
theorem Zb0 (lo hi:Int):∀ (l:List Int) (p:Option Int),rise lo hi p l = true→(∀ q,p = some q→q≤hi)→lo≤hi + 1→rise lo (hi + 1) p (l++[hi + 1]) = true
 | [],none,_,_,h => by simp only [List.nil_append,rise];rw [Zr.2 (by omega)];rfl
 | [],some q,_,hq,h => by
  have:=hq q rfl
  simp only [List.nil_append,rise]
  rw [Zr.2 (by omega),decide_eq_true (by omega)];rfl
 | x::t,none,hr,_,h => by
  simp only [rise,Bool.and_eq_true] at hr
  have hx:=Zr.1 hr.1
  rw [List.cons_append,rise,Zr.2 (by omega),Zb0 lo hi t (some x) hr.2 (fun q e => by injection e with e;omega) h];rfl
 | x::t,some p,hr,_,h => by
  simp only [rise,Bool.and_eq_true] at hr
  have hx:=Zr.1 hr.1
  rw [List.cons_append,rise,Zr.2 (by omega),hr.2.1,Zb0 lo hi t (some x) hr.2.2 (fun q e => by injection e with e;omega) h];rfl
theorem ZcR {segs:List Int} {nx ba bt:Int} {cf:List Int} (h:manOk segs nx ba bt cf = true) (h8:segs.length < 8) (hn:nx≤999):manOk (segs++[nx]) (nx + 1) ba bt cf = true:=by
 simp only [manOk,Bool.and_eq_true] at h ⊢
 obtain ⟨h1,h2,h3,h4,h5,h6⟩:=h
 have h2:=Zr.1 h2
 have e:=Zb0 0 (nx - 1) segs none h3 (fun q e => by cases e) (by omega)
 rw [show nx - 1 + 1 = nx by omega] at e
 refine ⟨Zr.2 (by rw [List.length_append,List.length_singleton];omega),Zr.2 (by omega),?_,h4,h5,h6⟩
 rw [show nx + 1 - 1 = nx by omega]
 exact e
theorem Z7l {x:S162} (h:(1≤x.f0.size∧x.f0.size≤10)∧x.f1.size≤40):(Z10 x).length≤61:=by
 have v0:=Z2d (show x.f0.size≤34359738367 by omega)
 have v1:=Z2d (show x.f1.size≤34359738367 by omega)
 unfold Z10 sh
 simp only [List.length_append,List.length_cons,Ze]
 omega
theorem Z3S (st:Int) (l:List S162):(Z4 st l).1.size≤4000:=by
 cases h:(Z4 st l).2
 ·unfold Z4 at h ⊢
  split at h
  ·cases h
  ·rename_i h1;rw [if_neg h1];exact Nat.zero_le _
 ·obtain ⟨hk,hb⟩:=Z3A (s:=(Z4 st l).1) (Prod.ext rfl h)
  obtain ⟨b1,b2,b3⟩:=Z0V hk
  have v0:=Z2d (show st.toNat≤34359738367 by omega)
  have v1:=Z2d (show l.length≤34359738367 by omega)
  have hf:∀ (l:List S162),(∀ x∈l,(1≤x.f0.size∧x.f0.size≤10)∧x.f1.size≤40)→(l.flatMap Z10).length≤61 * l.length:=by
   intro l hl
   induction l with
   | nil => simp
   | cons x t ih =>
    have:=Z7l (hl x List.mem_cons_self)
    have:=ih (fun y hy => hl y (List.mem_cons_of_mem _ hy))
    rw [List.flatMap_cons,List.length_append,List.length_cons]
    omega
  have hf:=hf l b3
  have hz:(Z4 st l).1.size = (bytesOf (Z4 st l).1).length:=(Ze _).symm
  rw [hb] at hz
  simp only [List.length_append] at hz
  omega
theorem Z9m {segs:List Int} {nx ba bt:Int} {cf:List Int} (h:manOk segs nx ba bt cf = true):(Z0R segs nx ba bt cf).2 = true:=by
 obtain ⟨b1,b2,b3,b4,b5,b6,b7⟩:=ZY h
 have hf:∀ (l:List Int),(∀ x∈l,0≤x∧x≤1000000)→(l.flatMap fun n => varL n.toNat).length≤5 * l.length:=by
  intro l hl
  induction l with
  | nil => simp
  | cons x t ih =>
   have hx:=hl x List.mem_cons_self
   have:=Z2d (show x.toNat≤34359738367 by omega)
   have:=ih (fun y hy => hl y (List.mem_cons_of_mem _ hy))
   rw [List.flatMap_cons,List.length_append,List.length_cons]
   omega
 have hn:(Z1V segs nx ba bt cf).length = segs.length + cf.length + 5:=by simp only [Z1V,List.length_cons,List.length_append];omega
 have hf:=hf (Z1V segs nx ba bt cf) (fun x hx => by
  simp only [Z1V,List.mem_cons,List.mem_append] at hx
  rcases hx with rfl | hx | rfl | rfl | rfl | rfl | hx
  ·omega
  ·have:=b6 x hx;omega
  ·omega
  ·omega
  ·omega
  ·omega
  ·have:=b7 x hx;omega)
 unfold Z0R
 rw [if_pos h]
 unfold sealT
 rw [if_neg (by rw [strOfNums_size];omega)]
theorem Zbf {st:Int} {l:List S162} (h:(Z4 st l).2 = true):(frame (Z4 st l).1).2 = true:=by
 obtain ⟨hk,hb⟩:=Z3A (s:=(Z4 st l).1) (Prod.ext rfl h)
 obtain ⟨b1,b2,b3⟩:=Z0V hk
 have v0:=Z2d (show st.toNat≤34359738367 by omega)
 have v1:=Z2d (show l.length≤34359738367 by omega)
 have p0:=Z61 st.toNat
 have hf:∀ (l:List S162),(∀ x∈l,(1≤x.f0.size∧x.f0.size≤10)∧x.f1.size≤40)→(l.flatMap Z10).length≤61 * l.length:=by
  intro l hl
  induction l with
  | nil => simp
  | cons x t ih =>
   have:=Z7l (hl x List.mem_cons_self)
   have:=ih (fun y hy => hl y (List.mem_cons_of_mem _ hy))
   rw [List.flatMap_cons,List.length_append,List.length_cons]
   omega
 have hf:=hf l b3
 have hz:(Z4 st l).1.size = (bytesOf (Z4 st l).1).length:=(Ze _).symm
 rw [hb] at hz
 simp only [List.length_append] at hz
 unfold frame
 rw [if_pos (Zr.2 (by omega))]
theorem Z5k {rb:RBf} {rm:RMf} (hrm:∀ s,s.size≤1000000→RM s (rm s)) {d:List S122} {s0:List Int} {a b c:Int} {s4:List Int} {dir:List S145} {st:Int} (h:openIs rb rm d s0 a b c s4 dir st = true):ZT d = true∧manOk s0 a b c s4 = true∧dirOk dir = true:=by
 unfold openIs at h
 simp only [Bool.and_eq_true,decide_eq_true_iff] at h
 obtain ⟨e1,e2,e3⟩:=h
 obtain ⟨g1,g2,g3⟩:=Z9a hrm e1
 obtain ⟨-,q0,q1,q2,q3,q4,q5⟩:=Z6I e3
 rw [←q0,←q1,←q2,←q3,←q4] at g2
 rw [←q5] at g3
 exact ⟨g1,g2,g3⟩
theorem Z6N {segs:List Int} {nx ba bt:Int} {cf:List Int}:(Z0R segs nx ba bt cf).1.size≤20004:=by
 unfold Z0R
 split
 ·unfold sealT
  split
  ·exact Nat.zero_le _
  ·have:=Z3r (sumOf (strOfNums ((Z1V segs nx ba bt cf).flatMap fun n => varL n.toNat)))
   dsimp only
   rw [size_append];omega
 ·exact Nat.zero_le _
def ZZ (d:List S122) (s0:List Int) (a b c:Int) (s4:List Int) (f:ByteArray):List S119 :=
 if ((Zn (segT (Z2Q s0)) d).size:Int)≥500∧s0.length < 8∧a≤999 then
  [⟨1,segT a,⟨#[]⟩,f⟩,⟨1,⟨#[109,43]⟩,⟨#[]⟩,(Z0R (s0++[a]) (a + 1) b c s4).1⟩,⟨3,⟨#[109,43]⟩,⟨#[109]⟩,⟨#[]⟩⟩]
 else [⟨2,segT (Z2Q s0),⟨#[]⟩,f⟩]
def addOf (rb:RBf) (rm:RMf) (d:List S122) (s0:List Int) (a b c:Int) (s4:List Int) (dir:List S145) (st bs:Int) (bl:List S162):Aft :=
 if (Z4 bs bl).2 = true∧openIs rb rm d s0 a b c s4 dir st = true∧¬ bs < st then Z3E rb rm d (ZZ d s0 a b c s4 (frame (Z4 bs bl).1).1) else noAft
theorem Z3M (d:List S122) (s0:List Int) (a b c:Int) (s4:List Int) (s:ByteArray):(ZZ d s0 a b c s4 (frame s).1).length≤3∧∀ r∈ZZ d s0 a b c s4 (frame s).1,r.f3.size≤1000000000:=by
 have hf:=Z4g s
 have hm:=Z6N (segs:=s0++[a]) (nx:=a + 1) (ba:=b) (bt:=c) (cf:=s4)
 unfold ZZ
 split
 ·refine ⟨by simp,fun r hr => ?_⟩
  simp only [List.mem_cons,List.not_mem_nil,or_false] at hr
  rcases hr with rfl | rfl | rfl
  ·dsimp only;omega
  ·dsimp only;omega
  ·exact Nat.zero_le _
 ·refine ⟨by simp,fun r hr => ?_⟩
  simp only [List.mem_cons,List.not_mem_nil,or_false] at hr
  subst hr
  dsimp only;omega
theorem ZbR (segs:List Int) (nx ba bt:Int) (cf:List Int) (hs:segs.length≤1000000) (hc:cf.length≤1000000):Ev (fun k => Z3x.f k segs nx ba bt cf) ([⟨1,⟨#[109,43]⟩,⟨#[]⟩,(Z0R segs nx ba bt cf).1⟩,⟨3,⟨#[109,43]⟩,⟨#[109]⟩,⟨#[]⟩⟩],(Z0R segs nx ba bt cf).2):=by
 unfold Z3x.f
 exact Ev.bind (Z7c segs nx ba bt cf (by omega) (by omega)) (Ev.now _)
theorem Zaw (rb:RBf) (hrb:∀ c,c.size≤9000→RB c (rb c)) (rm:RMf) (hrm:∀ s,s.size≤1000000→RM s (rm s)) (d:List S122) (hl:d.length≤1048576) (s0:List Int) (a b c:Int) (s4:List Int) (dir:List S145) (st bs:Int) (bl:List S162) (hbl:bl.length≤1048576):Ev (fun k => Z3a.f k d s0 a b c s4 dir st bs bl) (addOf rb rm d s0 a b c s4 dir st bs bl):=by
 obtain ⟨t,ht⟩:∃ t,t = Z4 bs bl:=⟨_,rfl⟩
 have hts:t.1.size≤1000000000:=by have:=Z3S bs bl;rw [ht];omega
 unfold Z3a.f addOf
 rw [←ht]
 refine Ev.bind (Ev.eq (Z4B bs bl hbl) ht.symm) (Ev.bind (Z4W t.1 (by omega)) (Ev.bind (Zcs rb hrb rm hrm d hl s0 a b c s4 dir st) (Ev.ite (fun e1 => Ev.ite (fun e2 => ?_) (fun e2 => Ev.done ?_)) (fun e1 => Ev.done ?_))))
 ·have hf:(frame t.1).2 = true:=by rw [ht] at e2 ⊢;exact Zbf e2
  refine Ev.pos hf (Ev.ite (fun e3 => Ev.done ?_) (fun e3 => ?_))
  ·rw [if_neg (fun h => h.2.2 e3)];rfl
  rw [if_pos ⟨e2,e1,e3⟩]
  obtain ⟨g1,g2,g3⟩:=Z5k hrm e1
  obtain ⟨b1,b2,-,-,b5,-,-⟩:=ZY g2
  obtain ⟨m1,m2⟩:=Z3M d s0 a b c s4 t.1
  have hb:=Zcn rb hrb rm hrm d hl (ZZ d s0 a b c s4 (frame t.1).1) (by omega) m2
  rw [Z9 (n:=(s0.length:Int) - 1) (by omega) (by omega)]
  refine Ev.pos (by omega) (Ev.pos (by omega) (Ev.call (Z0T _) (Ev.bind (Z2F d g1 _) ?_)))
  change Ev (fun k => if ((Zn (segT (Z2Q s0)) d).size:Int) < 500 then _ else _) _
  refine Ev.ite (fun e4 => ?_) (fun e4 => Ev.ite (fun e5 => ?_) (fun e5 => Ev.ite (fun e6 => ?_) (fun e6 => ?_)))
  ·have ea:ZZ d s0 a b c s4 (frame t.1).1 = [⟨2,segT (Z2Q s0),⟨#[]⟩,(frame t.1).1⟩]:=by unfold ZZ;rw [if_neg (fun h => by have:=h.1;omega)]
   rw [ea] at hb ⊢
   exact Ev.call (Z0T _) (Ev.bind hb (Ev.now _))
  ·have ea:ZZ d s0 a b c s4 (frame t.1).1 = [⟨2,segT (Z2Q s0),⟨#[]⟩,(frame t.1).1⟩]:=by unfold ZZ;rw [if_neg (fun h => by have:=h.2.1;omega)]
   rw [ea] at hb ⊢
   exact Ev.call (Z0T _) (Ev.bind hb (Ev.now _))
  ·have ea:ZZ d s0 a b c s4 (frame t.1).1 = [⟨2,segT (Z2Q s0),⟨#[]⟩,(frame t.1).1⟩]:=by unfold ZZ;rw [if_neg (fun h => by have:=h.2.2;omega)]
   rw [ea] at hb ⊢
   exact Ev.call (Z0T _) (Ev.bind hb (Ev.now _))
  ·have ea:ZZ d s0 a b c s4 (frame t.1).1 = [⟨1,segT a,⟨#[]⟩,(frame t.1).1⟩,⟨1,⟨#[109,43]⟩,⟨#[]⟩,(Z0R (s0++[a]) (a + 1) b c s4).1⟩,⟨3,⟨#[109,43]⟩,⟨#[109]⟩,⟨#[]⟩⟩]:=by unfold ZZ;rw [if_pos ⟨by omega,by omega,by omega⟩]
   rw [ea] at hb ⊢
   have hk:=ZcR g2 (by omega) (by omega)
   refine Ev.call (a:=(s0,a,b,c,s4)) (by unfold Z2i.f;rw [if_pos (by omega),if_pos (by omega),List.nil_append,List.nil_append]) (Ev.pos (by dsimp only;omega) ?_)
   dsimp only
   rw [Z9 (n:=a + 1) (by omega) (by omega)]
   have hok:=Z9m hk
   refine Ev.bind (ZbR (s0++[a]) (a + 1) b c s4 (by simp;omega) (by omega)) (Ev.pos hok (Ev.call (Z0T _) (Ev.pos (by simp) (Ev.bind hb (Ev.now _)))))
 ·rw [if_neg (fun h => e2 h.1)];rfl
 ·rw [if_neg (fun h => e1 h.2.1)];rfl
theorem Z6c (rb:RBf) (hrb:∀ c,c.size≤9000→RB c (rb c)) (rm:RMf) (hrm:∀ s,s.size≤1000000→RM s (rm s)) (d:List S122) (hl:d.length≤1048576) (s0:List Int) (a b c:Int) (s4:List Int) (dir:List S145) (st bs:Int) (bl:List S162) (hbl:bl.length≤1048576) (h0:s0.length≤1048576) (h4:s4.length≤1048576) (h5:dir.length≤1048576):Ev (fun k => Zb.f k d s0 a b c s4 dir st bs bl) (addOf rb rm d s0 a b c s4 dir st bs bl):=by
 obtain ⟨t,ht⟩:∃ t,t = Z4 bs bl:=⟨_,rfl⟩
 have hts:t.1.size≤1000000000:=by have:=Z3S bs bl;rw [ht];omega
 have no:∀ r:Aft,r = noAft→Ev (fun k => Zb.j0 k t.1 true d s0 a b c s4 dir st) r:=fun r hr => by
  refine Ev.step (fun _ => rfl) ?_
  simp only [Zb.j0]
  exact Ev.pos trivial (Ev.done hr.symm)
 unfold Zb.f addOf
 rw [←ht]
 refine Ev.bind (Ev.eq (Z3K bs bl hbl) ht.symm) (Ev.ite (fun e2 => Ev.bind (Z6h rb hrb rm hrm d hl s0 a b c s4 dir st h0 h4 h5) (Ev.ite (fun e1 => ?_) (fun e1 => no _ ?_))) (fun e2 => no _ ?_))
 ·refine Ev.step (fun _ => rfl) ?_
  simp only [Zb.j0]
  refine Ev.ite (fun e3 => Ev.done ?_) (fun e3 => ?_)
  ·rw [if_neg (fun h => h.2.2 (of_decide_eq_true e3))];rfl
  rw [if_pos ⟨e2,e1,fun h => e3 (decide_eq_true h)⟩]
  obtain ⟨g1,g2,g3⟩:=Z5k hrm e1
  obtain ⟨b1,b2,-,-,b5,-,-⟩:=ZY g2
  obtain ⟨hdl,hdu⟩:=Z0z g1
  obtain ⟨m1,m2⟩:=Z3M d s0 a b c s4 t.1
  obtain ⟨z,hz,hz1,hz2⟩:=Z6j rb hrb rm hrm d hl (ZZ d s0 a b c s4 (frame t.1).1) (by omega) m2
  have fin:∀ r:Aft,r = Z3E rb rm d (ZZ d s0 a b c s4 (frame t.1).1)→Ev (fun k => if z.2.2.2.2.2.2.2 = true then some (z.1,z.2.1,z.2.2.1,z.2.2.2.1,z.2.2.2.2.1,z.2.2.2.2.2.1,z.2.2.2.2.2.2.1,ZZ d s0 a b c s4 (frame t.1).1,true) else some noAft) r:=fun r hr => by
   subst hr
   refine Ev.ite (fun h => Ev.done (hz2 h).symm) (fun h => Ev.done ?_)
   unfold Z3E at hz1 ⊢
   split at hz1
   ·exact absurd hz1 h
   ·rename_i hn;rw [if_neg hn]
  have hcp:Z2k.f s0 a b c s4 = some (s0,a,b,c,s4):=by
   unfold Z2k.f
   rw [Option.bind_some,if_pos (by simp;omega),Option.bind_some,if_pos (by simp;omega),List.nil_append,List.nil_append]
  have goF:ZZ d s0 a b c s4 (frame t.1).1 = [⟨2,segT (Z2Q s0),⟨#[]⟩,(frame t.1).1⟩]→Ev (fun k => Zb.j1 k (frame t.1).1 [⟨2,segT (Z2Q s0),⟨#[]⟩,(frame t.1).1⟩] false d s0 a b c s4) (Z3E rb rm d (ZZ d s0 a b c s4 (frame t.1).1)):=fun ea => by
   refine Ev.step (fun _ => rfl) ?_
   simp only [Zb.j1]
   rw [ea] at hz fin
   refine Ev.neg (by simp) (Ev.bind hz ?_)
   rw [ea]
   exact fin _ rfl
  have goT:ZZ d s0 a b c s4 (frame t.1).1 = [⟨1,segT a,⟨#[]⟩,(frame t.1).1⟩,⟨1,⟨#[109,43]⟩,⟨#[]⟩,(Z0R (s0++[a]) (a + 1) b c s4).1⟩,⟨3,⟨#[109,43]⟩,⟨#[109]⟩,⟨#[]⟩⟩]→Ev (fun k => Zb.j1 k (frame t.1).1 [⟨2,segT (Z2Q s0),⟨#[]⟩,(frame t.1).1⟩] true d s0 a b c s4) (Z3E rb rm d (ZZ d s0 a b c s4 (frame t.1).1)):=fun ea => by
   refine Ev.step (fun _ => rfl) ?_
   simp only [Zb.j1]
   rw [Z9 (n:=a + 1) (by omega) (by omega)]
   have hn:Ev (fun k => Z1q.f k (s0++[a]) (a + 1) b c s4) ([⟨1,⟨#[109,43]⟩,⟨#[]⟩,(Z0R (s0++[a]) (a + 1) b c s4).1⟩,⟨3,⟨#[109,43]⟩,⟨#[109]⟩,⟨#[]⟩⟩],(Z0R (s0++[a]) (a + 1) b c s4).2):=by
    unfold Z1q.f
    exact Ev.bind (Z0K _ _ _ _ _ (by simp;omega) (by omega)) (Ev.now _)
   rw [ea] at hz fin
   refine Ev.pos trivial (Ev.bind (Z19 a) (Ev.call rfl (Ev.pos (by omega) (Ev.bind hn (Ev.pos (by simp) (Ev.call rfl (Ev.bind hz ?_)))))))
   rw [ea]
   exact fin _ rfl
  refine Ev.bind (Z4a t.1 (by omega)) (Ev.call hcp ?_)
  dsimp only
  rw [Z9 (n:=(s0.length:Int) - 1) (by omega) (by omega)]
  refine Ev.pos (by omega) (Ev.pos (by omega) (Ev.bind (Z19 _) (Ev.call rfl (Ev.bind (Z3F d hl hdu _) ?_))))
  change Ev (fun k => if ((Zn (segT (Z2Q s0)) d).size:Int)≥500 then (if (s0.length:Int) < 8 then Zb.j1 k (frame t.1).1 [⟨2,segT (Z2Q s0),⟨#[]⟩,(frame t.1).1⟩] (decide (a≤999)) d s0 a b c s4 else Zb.j1 k (frame t.1).1 [⟨2,segT (Z2Q s0),⟨#[]⟩,(frame t.1).1⟩] false d s0 a b c s4) else Zb.j1 k (frame t.1).1 [⟨2,segT (Z2Q s0),⟨#[]⟩,(frame t.1).1⟩] false d s0 a b c s4) _
  refine Ev.ite (fun e4 => Ev.ite (fun e5 => ?_) (fun e5 => goF ?_)) (fun e4 => goF ?_)
  ·by_cases e6:a≤999
   ·rw [decide_eq_true e6]
    exact goT (by unfold ZZ;rw [if_pos ⟨e4,by omega,e6⟩])
   ·rw [decide_eq_false e6]
    exact goF (by unfold ZZ;rw [if_neg (fun h => e6 h.2.2)])
  ·unfold ZZ;rw [if_neg (fun h => by have:=h.2.1;omega)]
  ·unfold ZZ;rw [if_neg (fun h => e4 h.1)]
 ·rw [if_neg (fun h => e1 h.2.1)]
 ·rw [if_neg (fun h => e2 h.1)]
def mapIn:Option ByteArray→List S147→Bool
 | _,[] => true
 | p,x::t => inR x.f0.size 1 10 && (keyUp p x.f0 && (decide (x.f1.size≤40) && mapIn (some x.f0) t))
def mapOk (l:List S147):Bool:=decide (l.length≤60) && mapIn none l
def Zdd (xs:List S147):Nat→Option ByteArray
 | 0 => none
 | n + 1 => some (Z1W xs (n:Int)).f0
theorem Zbb (l:List S147) (hl:l.length≤1048576):∀ (rest:List S147) (n:Nat),l.drop n = rest→Ev (fun k => Z1i.l0 k l (n:Int)) (mapIn (Zdd l n) rest):=by
 intro rest
 induction rest with
 | nil =>
  intro n h
  have:=ZE h
  refine Ev.step (fun _ => rfl) ?_
  simp only [Z1i.l0]
  exact Ev.neg (by omega) (Ev.done (by simp [mapIn]))
 | cons x t ih =>
  intro n h
  obtain ⟨h1,-,h3⟩:=Zi h
  have hk:Zdd l (n + 1) = some x.f0:=by rw [Zdd,Z4t h]
  have ih:=ih (n + 1) h3
  rw [hk] at ih
  refine Ev.step (fun _ => rfl) ?_
  simp only [Z1i.l0,Z4t h,Z5 (show n≤9223372036854775806 by omega)]
  refine Ev.pos (by omega) (Ev.pos (by omega) (Ev.call (Z5z _) ?_))
  rw [mapIn]
  cases h0:inR x.f0.size 1 10
  ·exact Ev.neg (by simp) (Ev.done (by simp))
  refine Ev.pos rfl (Ev.ite (fun hc => Ev.done ?_) (fun hc => ?_))
  ·rw [decide_eq_false (show ¬ x.f1.size≤40 by omega)];simp
  rw [decide_eq_true (show x.f1.size≤40 by omega)]
  cases n with
  | zero => exact Ev.neg (by omega) (Ev.eq ih (by simp [Zdd,keyUp]))
  | succ m =>
   simp only [Z2J (show m≤9223372036854775806 by omega)]
   refine Ev.pos (by omega) (Ev.pos (by omega) (Ev.pos (by omega) (Ev.ite (fun hc => Ev.eq ih ?_) (fun hc => Ev.done ?_))))
   ·simp only [Zdd,keyUp,hc];simp
   ·simp only [Zdd,keyUp,Bool.eq_false_iff.2 hc];simp
theorem Z5X (l:List S147) (hl:l.length≤1048576):Ev (fun k => Z1i.f k l) (mapOk l):=by
 unfold Z1i.f mapOk
 refine Ev.ite (fun hc => Ev.done ?_) (fun hc => Ev.eq (Zbb l hl l 0 rfl) ?_)
 ·rw [decide_eq_false (show ¬ l.length≤60 by omega)];rfl
 ·rw [decide_eq_true (show l.length≤60 by omega)];rfl
theorem Ev.uniq {α:Type} {g:Nat→Option α} {a b:α} (h:Ev g a) (k:Ev g b):a = b:=by
 obtain ⟨K,hK⟩:=h
 obtain ⟨M,hM⟩:=k
 have h1:=hK (max K M) (by omega)
 have h2:=hM (max K M) (by omega)
 rw [h1] at h2;exact Option.some.inj h2
theorem rb_text {c:ByteArray} {r:Int×List S162×Bool} (hc:c.size≤9000) (h:RB c r) (ht:r.2.2 = true):Z4 r.1 r.2.1 = (c,true):=by
 obtain ⟨z,hz,hd⟩:=Z5G c (by omega)
 obtain rfl:=Ev.uniq h.1 hz
 rcases hd with rfl | ⟨st,l,rfl,e⟩
 ·cases ht
 ·exact e
theorem Z9r {st:Int} {l:List S162} {c:ByteArray} (h:Z4 st l = (c,true)):c.size = (Zx st.toNat).size + (Zx l.length).size + (l.flatMap Z10).length:=by
 obtain ⟨-,hb⟩:=Z3A h
 have:=congrArg List.length hb
 rw [←Z1p,←Z1p] at this
 simp only [List.length_append,Ze] at this
 omega
theorem Zd7 (x:S162):(Z10 x).length = (ZM x.f0).size + 1 + (Zx x.f1.size).size + x.f1.size:=by
 have:=short_sz x.f1
 unfold Z10
 rw [←Z3I,←Z3I]
 simp only [List.length_append,List.length_cons,Ze]
 omega
theorem Zd6 (seg:Int):∀ (l:List S162) (a:Int),∀ x∈Z27 seg a l,x.f1 = seg∧(x.f3 = -1∨(0≤x.f3∧a≤x.f2∧x.f2 + x.f3≤a + ((l.flatMap Z10).length:Int)))
 | [],_,x,hx => by cases hx
 | y::t,a,x,hx => by
  have hl:=Zd7 y
  rw [Z27] at hx
  rw [List.flatMap_cons,List.length_append]
  rcases List.mem_cons.1 hx with rfl | hx
  ·split
   ·exact ⟨rfl,.inl rfl⟩
   ·exact ⟨rfl,.inr ⟨by dsimp only;omega,by dsimp only;omega,by dsimp only;omega⟩⟩
  ·obtain ⟨h1,h2⟩:=Zd6 seg t _ x hx
   exact ⟨h1,h2.imp_right fun h => by omega⟩
theorem Z82 {c:ByteArray} (h:1≤c.size∧c.size≤9000):(frame c).1.size = (Zx c.size).size + 4 + c.size:=by
 unfold frame
 rw [if_pos (Zr.2 (by omega))]
 have:=Z3r (sumOf c)
 simp only [size_append];omega
theorem scanOn_in (rb:ByteArray→Int×List S162×Bool) (hrb:∀ c,c.size≤9000→RB c (rb c)) (seg:Int):∀ (l:List ByteArray) (a:Int) (r:List S145×List ByteArray×Int),(∀ c∈l,c.size≤9000)→0≤a→∀ x∈(Z1K rb seg a l r).1,x∈r.1∨(x.f1 = seg∧(x.f3 = -1∨(0≤x.f2∧0≤x.f3∧x.f2 + x.f3≤frSum a l)))
 | [],a,r,_,_,x,hx => .inl hx
 | c::t,a,r,h,h0,x,hx => by
  rw [Z1K] at hx
  split at hx
  ·rename_i hk
   have hc:=h c List.mem_cons_self
   have hb:=Z9r (rb_text hc (hrb c hc) hk)
   have hv:=Z7s (rb c).1.toNat
   have hf:=Z82 (c:=c) ⟨by omega,hc⟩
   have hg:=(Z86 t (a + ((frame c).1.size:Int))).1
   rcases scanOn_in rb hrb seg t _ _ (fun y hy => h y (List.mem_cons_of_mem _ hy)) (by omega) x hx with hx | hx
   ·rcases List.mem_append.1 hx with hx | hx
    ·exact .inl hx
    ·obtain ⟨h1,h2⟩:=Zd6 seg _ _ x hx
     refine .inr ⟨h1,h2.imp_right fun h2 => ?_⟩
     rw [frSum];omega
   ·rw [frSum];exact .inr hx
  ·exact .inl hx
theorem Z9v {s:ByteArray} {a b:Int} {c:ByteArray} (h:Z0H s a = some (c,b)):(frame c).2 = true∧a + ((frame c).1.size:Int) = b∧s.extract a.toNat b.toNat = (frame c).1:=by
 obtain ⟨h0,h1,h2,-⟩:=Z4J h
 unfold Z0H at h
 split at h
 ·cases h
 split at h
 ·cases h
 split at h
 ·rename_i h3 h4 h5
  simp only [Option.some.injEq,Prod.mk.injEq] at h
  obtain ⟨e1,e2⟩:=h
  rw [e1] at h5
  rw [e2] at h5
  refine ⟨h5.1,?_,h5.2.symm⟩
  rw [h5.2,ByteArray.size_extract];omega
 ·cases h
theorem unfr_sum (s:ByteArray):∀ (m:Nat) (acc:List ByteArray) (a:Int) (l:List ByteArray),(unfr s m acc a).1 = acc++l→frSum a l = (unfr s m acc a).2
 | 0,acc,a,l,h => by
  rw [unfr] at h ⊢
  obtain rfl:l = []:=by simpa using h
  rfl
 | m + 1,acc,a,l,h => by
  rw [unfr] at h ⊢
  cases hs:Z0H s a with
  | none =>
   rw [hs] at h
   obtain rfl:l = []:=by simpa using h
   rfl
  | some x =>
   obtain ⟨c,b⟩:=x
   rw [hs] at h
   dsimp only at h ⊢
   obtain ⟨r,hr⟩:=Zdo s m (acc++[c]) b
   have hl:l = c::r:=by
    rw [hr,List.append_assoc] at h
    exact (List.append_cancel_left h).symm
   subst hl
   rw [←unfr_sum s m (acc++[c]) b r hr,frSum,(Z9v hs).2.1]
theorem Z4r (s:ByteArray):frSum 0 (Z00 s).1 = (Z00 s).2∧(Z00 s).2≤s.size:=by
 unfold Z00
 split
 ·exact ⟨rfl,by omega⟩
 ·obtain ⟨⟨-,h1⟩,-,-⟩:=Z5V s (s.size + 1) [] 0 (by omega) (by omega) (by simp) (fun c hc => by cases hc)
  exact ⟨unfr_sum s _ [] 0 _ (by simp),h1⟩
theorem ZcN {rb:RBf} (hrb:∀ c,c.size≤9000→RB c (rb c)) (d:List S122) (n:Int):∀ x∈(Z0Z rb d n).1,x.f1 = n∧(x.f3 = -1∨(0≤x.f2∧0≤x.f3∧x.f2 + x.f3≤((Zn (segT n) d).size:Int))):=fun x hx => by
 obtain ⟨u1,u2⟩:=Z4r (Zn (segT n) d)
 rcases scanOn_in rb hrb n _ 0 _ (Z2g _).2 (by omega) x hx with h | ⟨h1,h2⟩
 ·cases h
 ·exact ⟨h1,h2.imp_right fun h => by omega⟩
theorem openOn_in {rb:RBf} {d:List S122}:∀ (segs:List Int) (sp:List S145) (st:Int) (r:List S145×Int),Z2R rb d segs sp st = some r→∀ x∈r.1,x∈sp∨∃ n∈segs,x∈(Z0Z rb d n).1
 | [],sp,st,r,h,x,hx => by
  rw [Z2R] at h
  obtain rfl:=Option.some.inj h
  exact .inl hx
 | n::t,sp,st,r,h,x,hx => by
  rw [Z2R] at h
  split at h
  ·cases h
  ·rcases openOn_in t _ _ r h x hx with h1 | ⟨m,h1,h2⟩
   ·rcases List.mem_append.1 h1 with h1 | h1
    ·exact .inl h1
    ·exact .inr ⟨n,List.mem_cons_self,h1⟩
   ·exact .inr ⟨m,List.mem_cons_of_mem _ h1,h2⟩
theorem layS_mem {out:List S145} {s x:S145} (h:x∈layS out s):x∈out∨(x = s∧s.f3≠-1):=by
 unfold layS at h
 rcases List.mem_append.1 h with h | h
 ·rcases List.mem_append.1 h with h | h
  ·exact .inl (List.mem_filter.1 h).1
  ·split at h
   ·cases h
   ·rename_i hn;exact .inr ⟨List.mem_singleton.1 h,hn⟩
 ·exact .inl (List.mem_filter.1 h).1
theorem lay_mem:∀ (l d0:List S145),∀ x∈l.foldl layS d0,x∈d0∨(x∈l∧x.f3≠-1)
 | [],d0,x,h => .inl h
 | s::t,d0,x,h => by
  rw [List.foldl_cons] at h
  rcases lay_mem t (layS d0 s) x h with h | ⟨h,hn⟩
  ·rcases layS_mem h with h | ⟨rfl,hn⟩
   ·exact .inl h
   ·exact .inr ⟨List.mem_cons_self,hn⟩
  ·exact .inr ⟨List.mem_cons_of_mem _ h,hn⟩
theorem Z8U {rb:RBf} {rm:RMf} {d:List S122} (h:(Z0G rb rm d).2.2.2.2.2.2.2.2 = 0):ZT d = true∧(stands (Z8 ⟨#[109]⟩) d && (manAt rm d).2.2.2.2.2) = true∧(manAt rm d).1.all (fun n => stands (Z8 (segT n)) d) = true∧∃ sp st,Z2R rb d (manAt rm d).1 [] (manAt rm d).2.2.1 = some (sp,st)∧dirOk (sp.foldl layS []) = true∧Z0G rb rm d = ((manAt rm d).1,(manAt rm d).2.1,(manAt rm d).2.2.1,(manAt rm d).2.2.2.1,(manAt rm d).2.2.2.2.1,sp.foldl layS [],st,endOf rb d (manAt rm d).1 0,0):=by
 unfold Z0G at h ⊢
 by_cases h1:ZT d = true
 ·rw [if_pos h1] at h ⊢
  by_cases h2:(stands (Z8 ⟨#[109]⟩) d && (manAt rm d).2.2.2.2.2) = true
  ·rw [if_pos h2] at h ⊢
   by_cases h3:(manAt rm d).1.all (fun n => stands (Z8 (segT n)) d) = true
   ·rw [if_pos h3] at h ⊢
    cases ho:Z2R rb d (manAt rm d).1 [] (manAt rm d).2.2.1 with
    | none => rw [ho] at h;simp [Z2P] at h
    | some x =>
     obtain ⟨sp,st⟩:=x
     rw [ho] at h
     dsimp only at h ⊢
     by_cases h4:dirOk (sp.foldl layS []) = true
     ·exact ⟨h1,h2,h3,sp,st,rfl,h4,by rw [if_pos h4]⟩
     ·rw [if_neg h4] at h;simp [Z2P] at h
   ·rw [if_neg h3] at h;simp [Z2P] at h
  ·rw [if_neg h2] at h;simp [Z2P] at h
 ·rw [if_neg h1] at h;simp [Z2P] at h
theorem dir_lies {rb:RBf} (hrb:∀ c,c.size≤9000→RB c (rb c)) {rm:RMf} {d:List S122} (h:(Z0G rb rm d).2.2.2.2.2.2.2.2 = 0):∀ x∈(Z0G rb rm d).2.2.2.2.2.1,x.f2 + x.f3≤((Zn (segT x.f1) d).size:Int):=by
 obtain ⟨-,-,-,sp,st,ho,-,e⟩:=Z8U h
 rw [e]
 intro x hx
 rcases lay_mem sp [] x hx with hx | ⟨hx,hn⟩
 ·cases hx
 rcases openOn_in _ _ _ _ ho x hx with hx | ⟨n,-,hx⟩
 ·cases hx
 obtain ⟨h1,h2⟩:=ZcN hrb d n x hx
 rw [h1]
 rcases h2 with h2 | ⟨-,-,h2⟩
 ·exact absurd h2 hn
 ·exact h2
theorem Zbc (d:List S122):∀ (l:List S145) (acc:List S147),(∀ x∈l,x.f2 + x.f3≤((Zn (segT x.f1) d).size:Int))→Z68 d l acc = (acc++l.map (Z1e d),true)
 | [],acc,_ => by simp [Z68]
 | x::t,acc,h => by
  rw [Z68,if_neg (by have:=h x List.mem_cons_self;omega),Zbc d t _ (fun y hy => h y (List.mem_cons_of_mem _ hy))]
  simp
theorem keyUp_eq (p:Option ByteArray) (s:ByteArray):keyUp p s = Z6Q p s:=by cases p <;> rfl
theorem Zbi (d:List S122):∀ (l:List S145) (p:Option ByteArray),dirIn p l = true→mapIn p (l.map (Z1e d)) = true
 | [],_,_ => rfl
 | x::t,p,h => by
  rw [dirIn] at h
  simp only [Bool.and_eq_true] at h
  obtain ⟨h1,h2,h3⟩:=h
  obtain ⟨k0,k1,k2,k3⟩:=Z7P h1
  have hs:(Z1e d x).f1.size≤40:=by unfold Z1e;rw [ByteArray.size_extract];omega
  rw [List.map_cons,mapIn,keyUp_eq]
  simp only [Bool.and_eq_true]
  exact ⟨Zr.2 (by unfold Z1e;dsimp only;omega),h2,decide_eq_true hs,Zbi d t _ h3⟩
theorem Z7v {d:List S122} {l:List S145} (h:dirOk l = true):mapOk (l.map (Z1e d)) = true:=by
 rw [dirOk,Bool.and_eq_true] at h
 rw [mapOk,Bool.and_eq_true,List.length_map]
 exact ⟨h.1,Zbi d l none h.2⟩
def chOf (p:S147):S162:=⟨p.f0,p.f1,false⟩
theorem Zb9:∀ (l:List S147) (p:Option ByteArray),mapIn p l = true→Z40 p (l.map chOf) = true
 | [],_,_ => rfl
 | x::t,p,h => by
  rw [mapIn] at h
  simp only [Bool.and_eq_true] at h
  obtain ⟨h1,h2,h3,h4⟩:=h
  rw [List.map_cons,Z40]
  simp only [Bool.and_eq_true]
  exact ⟨h1,h2,h3,rfl,Zb9 t _ h4⟩
theorem batchOk_map {l:List S147} {st:Int} (h:mapOk l = true):Z2D st (l.map chOf) = inR st 0 100000:=by
 rw [mapOk,Bool.and_eq_true] at h
 rw [Z2D,List.length_map,h.1,Zb9 l none h.2,Bool.and_true,Bool.and_true]
theorem Zag (rb:ByteArray→Int×List S162×Bool) (hrb:∀ c,c.size≤9000→RB c (rb c)) (seg:Int):∀ (l:List ByteArray) (a:Int) (r:List S145×List ByteArray×Int),(∀ c∈l,c.size≤9000)→r.2.2≤100000→r.2.2≤(Z1K rb seg a l r).2.2∧(Z1K rb seg a l r).2.2≤100000
 | [],a,r,_,h => ⟨Int.le_refl _,h⟩
 | c::t,a,r,h,h0 => by
  rw [Z1K]
  split
  ·rename_i hk
   have hb:=(Z0V ((hrb c (h c List.mem_cons_self)).2.2 hk)).1
   have hm:r.2.2≤mx r.2.2 (rb c).1∧mx r.2.2 (rb c).1≤100000:=by unfold mx;split <;> omega
   have:=Zag rb hrb seg t (a + ((frame c).1.size:Int)) (r.1++Z27 seg (a + ((frame c).1.size:Int) - (c.size:Int) + ((Zx (rb c).1.toNat).size:Int) + ((Zx (rb c).2.1.length).size:Int)) (rb c).2.1,r.2.1++[c],mx r.2.2 (rb c).1) (fun y hy => h y (List.mem_cons_of_mem _ hy)) hm.2
   exact ⟨Int.le_trans hm.1 this.1,this.2⟩
  ·exact ⟨Int.le_refl _,h0⟩
theorem Z9P {rb:RBf} (hrb:∀ c,c.size≤9000→RB c (rb c)) {d:List S122}:∀ (segs:List Int) (sp:List S145) (st:Int) (r:List S145×Int),Z2R rb d segs sp st = some r→st≤100000→st≤r.2∧r.2≤100000
 | [],sp,st,r,h,h0 => by
  rw [Z2R] at h
  obtain rfl:=Option.some.inj h
  exact ⟨Int.le_refl _,h0⟩
 | n::t,sp,st,r,h,h0 => by
  rw [Z2R] at h
  split at h
  ·cases h
  ·have h1:=Zag rb hrb n (Z00 (Zn (segT n) d)).1 0 ([],[],-1) (Z2g _).2 (by dsimp only;omega)
   have hm:st≤mx st (Z0Z rb d n).2.2∧mx st (Z0Z rb d n).2.2≤100000:=by unfold Z0Z mx;split <;> omega
   have:=Z9P hrb t _ _ r h hm.2
   exact ⟨Int.le_trans hm.1 this.1,this.2⟩
theorem ZcV {rb:RBf} (hrb:∀ c,c.size≤9000→RB c (rb c)) {rm:RMf} (hrm:∀ s,s.size≤1000000→RM s (rm s)) {d:List S122} (h:(ZL rb rm d).2.2.2.2.2.2.2.2 = 0):Z5u d (ZL rb rm d).2.2.2.2.2.1 = ((ZL rb rm d).2.2.2.2.2.1.map (Z1e d),true)∧(ZL rb rm d).2.2.1≤(ZL rb rm d).2.2.2.2.2.2.1∧(ZL rb rm d).2.2.2.2.2.2.1≤100000:=by
 have hc:=Z9k h
 obtain ⟨g1,g2,g3⟩:=Z9a hrm h
 have hl:=dir_lies hrb hc
 obtain ⟨-,-,-,sp,st,ho,-,e⟩:=Z8U hc
 unfold Z5u
 rw [g1,g3]
 obtain ⟨b1,b2,b3,-⟩:=ZY g2
 revert g2 b3
 unfold ZL
 rw [if_pos hc]
 intro g2 b3
 refine ⟨by rw [Bool.true_and,if_pos rfl,Zbc d _ [] hl,List.nil_append],?_⟩
 rw [e] at b3 ⊢
 exact Z9P hrb _ _ _ _ ho (by dsimp only at b3;omega)
def ZaB (l:List S147) (st:Int):Int×List S162×Bool:=if (mapOk l && inR st 0 100000) = true then (st,l.map chOf,true) else (0,[],false)
theorem Z8L (l:List S147) (hl:l.length≤1048576) (st:Int):∀ (rest:List S147) (n:Nat) (acc:List S162),l.drop n = rest→acc.length≤n→n≤l.length→Ev (fun k => Zz.l0 k l (n:Int) st acc) (st,acc++rest.map chOf,true):=by
 intro rest
 induction rest with
 | nil =>
  intro n acc h ha hn
  have:=ZE h
  refine Ev.step (fun _ => rfl) ?_
  simp only [Zz.l0]
  exact Ev.neg (by omega) (Ev.done (by simp))
 | cons x t ih =>
  intro n acc h ha hn
  obtain ⟨h1,-,h3⟩:=Zi h
  refine Ev.step (fun _ => rfl) ?_
  simp only [Zz.l0,Z4t h,Z5 (show n≤9223372036854775806 by omega)]
  exact Ev.pos (by omega) (Ev.pos (by omega) (Ev.pos (by omega) (Ev.eq (ih (n + 1) _ h3 (by simp;omega) (by omega)) (by simp [chOf]))))
theorem Zam (l:List S147) (hl:l.length≤1048576) (st:Int):Ev (fun k => Zz.f k l st) (ZaB l st):=by
 unfold Zz.f ZaB
 have no:∀ r:Int×List S162×Bool,r = (0,[],false)→Ev (fun k => Zz.j0 k l st true) r:=fun r hr => by
  refine Ev.step (fun _ => rfl) ?_
  simp only [Zz.j0]
  exact Ev.pos trivial (Ev.done hr.symm)
 refine Ev.bind (Z5X l hl) ?_
 cases mapOk l
 ·exact Ev.neg (by simp) (no _ (by simp))
 refine Ev.pos rfl (Ev.call (Z0m _ _ _) ?_)
 cases inR st 0 100000
 ·exact no _ (by simp)
 refine Ev.step (fun _ => rfl) ?_
 simp only [Zz.j0]
 exact Ev.neg (by simp) (Ev.eq (Z8L l hl st l 0 [] rfl (by simp) (by omega)) (by simp))
theorem frame_le (s:ByteArray):(frame s).1.size≤1000000000:=by have:=Z4g s;omega
def Z6H (segs:List Int) (nx ba bt:Int) (cf:List Int):List S119:=[⟨1,⟨#[109,43]⟩,⟨#[]⟩,(Z0R segs nx ba bt cf).1⟩,⟨3,⟨#[109,43]⟩,⟨#[109]⟩,⟨#[]⟩⟩]
def Z7X (segs:List Int):List S119:=segs.map fun n => ⟨4,segT n,⟨#[]⟩,⟨#[]⟩⟩
def Z6Y (s0:List Int) (a:Int) (text:ByteArray) (base term:Int) (conf:List Int):List S119:=(⟨1,segT a,⟨#[]⟩,text⟩::Z6H [a] (a + 1) base term conf)++Z7X s0
def ZaG (rb:RBf) (rm:RMf) (d:List S122) (s0:List Int) (a:Int) (text:ByteArray) (base term:Int) (conf:List Int):Aft :=
 if (Z0R [a] (a + 1) base term conf).2 = true then Z3E rb rm d (Z6Y s0 a text base term conf) else noAft
theorem Zcg {base term:Int} {conf:List Int} {a:Int} (h:(Z0R [a] (a + 1) base term conf).2 = true):0≤a∧a≤999:=by
 have hk:manOk [a] (a + 1) base term conf = true:=by
  unfold Z0R at h
  split at h
  ·assumption
  ·cases h
 obtain ⟨-,b2,-,-,-,b6,-⟩:=ZY hk
 have:=b6 a List.mem_cons_self
 omega
theorem Z6d (s0:List Int) (h0:s0.length≤8) (a:Int) (text:ByteArray) (ht:text.size≤1000000000) (base term:Int) (conf:List Int):(Z6Y s0 a text base term conf).length≤11∧∀ r∈Z6Y s0 a text base term conf,r.f3.size≤1000000000:=by
 have hm:=Z6N (segs:=[a]) (nx:=a + 1) (ba:=base) (bt:=term) (cf:=conf)
 unfold Z6Y Z6H Z7X
 refine ⟨by simp only [List.length_append,List.length_cons,List.length_nil,List.length_map];omega,fun r hr => ?_⟩
 rcases List.mem_append.1 hr with hr | hr
 ·simp only [List.mem_cons,List.not_mem_nil,or_false] at hr
  rcases hr with rfl | rfl | rfl
  ·exact ht
  ·dsimp only;omega
  ·exact Nat.zero_le _
 ·obtain ⟨n,-,rfl⟩:=List.mem_map.1 hr
  exact Nat.zero_le _
theorem Zal (rb:RBf) (hrb:∀ c,c.size≤9000→RB c (rb c)) (rm:RMf) (hrm:∀ s,s.size≤1000000→RM s (rm s)) (d:List S122) (hl:d.length≤1048576) (s0:List Int) (h0:s0.length≤8) (a b c:Int) (s4:List Int) (dir:List S145) (st:Int) (L:List S119) (hL:L.length≤11∧∀ r∈L,r.f3.size≤1000000000):∀ (rest:List Int) (n:Nat) (acc:List S119),s0.drop n = rest→acc.length≤n + 3→n≤s0.length→acc++Z7X rest = L→Ev (fun k => ZU.l0 k acc (n:Int) d s0 a b c s4 dir st) (Z3E rb rm d L):=by
 intro rest
 induction rest with
 | nil =>
  intro n acc h ha hn e
  have:=ZE h
  have e:acc = L:=by rw [←e];simp [Z7X]
  subst e
  obtain ⟨z,hz,hz1,hz2⟩:=Z6j rb hrb rm hrm d hl acc (by omega) hL.2
  refine Ev.step (fun _ => rfl) ?_
  simp only [ZU.l0]
  refine Ev.neg (by omega) (Ev.bind hz (Ev.ite (fun h => Ev.done (hz2 h).symm) (fun h => Ev.done ?_)))
  unfold Z3E at hz1 ⊢
  split at hz1
  ·exact absurd hz1 h
  ·rename_i hn;rw [if_neg hn];rfl
 | cons x t ih =>
  intro n acc h ha hn e
  obtain ⟨h1,-,h3⟩:=Zi h
  refine Ev.step (fun _ => rfl) ?_
  simp only [ZU.l0,Z3c h,Z5 (show n≤9223372036854775806 by omega)]
  exact Ev.pos (by omega) (Ev.pos (by omega) (Ev.bind (Z19 _) (Ev.pos (by omega) (ih (n + 1) _ h3 (by simp;omega) (by omega) (by rw [←e];simp [Z7X])))))
theorem Zci (rb:RBf) (hrb:∀ c,c.size≤9000→RB c (rb c)) (rm:RMf) (hrm:∀ s,s.size≤1000000→RM s (rm s)) (d:List S122) (hl:d.length≤1048576) (s0:List Int) (h0:s0.length≤8) (a b c:Int) (ha:0≤a∧a≤1000) (s4:List Int) (dir:List S145) (st:Int) (text:ByteArray) (ht:text.size≤1000000000) (base term:Int) (conf:List Int) (hc:conf.length≤1048576):Ev (fun k => ZU.f k d s0 a b c s4 dir st text base term conf) (ZaG rb rm d s0 a text base term conf):=by
 unfold ZU.f ZaG
 rw [Z9 (n:=a + 1) (by omega) (by omega)]
 have no:∀ (l:List S119) (r:Aft),r = noAft→Ev (fun k => ZU.j0 k text (segT a) l true d s0 a b c s4 dir st) r:=fun l r hr => by
  refine Ev.step (fun _ => rfl) ?_
  simp only [ZU.j0]
  exact Ev.pos trivial (Ev.done hr.symm)
 have hn:Ev (fun k => Z1q.f k [a] (a + 1) base term conf) (Z6H [a] (a + 1) base term conf,(Z0R [a] (a + 1) base term conf).2):=by
  unfold Z1q.f
  exact Ev.bind (Z0K _ _ _ _ _ (by simp) (by omega)) (Ev.now _)
 refine Ev.bind (Z19 a) (Ev.call rfl (Ev.pos (by simp;omega) (Ev.bind hn (Ev.ite (fun e => ?_) (fun e => ?_)))))
 ·rw [if_pos e]
  obtain ⟨g1,g2⟩:=Zcg e
  have hz:(segT a).size≠0:=by
   have h:=Zbl (n:=a.toNat) (by omega)
   rw [show ((a.toNat:Nat):Int) = a by omega] at h
   omega
  have hne:((segT a).toList == ([]:List UInt8)) = false:=by
   rw [beq_eq_false_iff_ne]
   exact fun h => hz (Zdl.1 h)
  dsimp only
  rw [hne]
  refine Ev.step (fun _ => rfl) ?_
  simp only [ZU.j0]
  refine Ev.neg (by simp) (Ev.call rfl (Ev.pos (by simp [Z6H]) ?_))
  exact Zal rb hrb rm hrm d hl s0 h0 a b c s4 dir st _ (Z6d s0 h0 a text ht base term conf) s0 0 _ rfl (by simp [Z6H]) (by omega) rfl
 ·rw [if_neg e];exact no _ _ rfl
def Z9z (rb:RBf) (rm:RMf) (d:List S122) (s0:List Int) (a b c:Int) (s4:List Int) (dir:List S145) (st base term:Int) (conf:List Int):Aft :=
 if openIs rb rm d s0 a b c s4 dir st = true∧base = st then ZaG rb rm d s0 a (frame (Z4 st ((dir.map (Z1e d)).map chOf)).1).1 base term conf else noAft
theorem Z96 {rb:RBf} (hrb:∀ c,c.size≤9000→RB c (rb c)) {rm:RMf} (hrm:∀ s,s.size≤1000000→RM s (rm s)) {d:List S122} {s0:List Int} {a b c:Int} {s4:List Int} {dir:List S145} {st:Int} (h:openIs rb rm d s0 a b c s4 dir st = true):Z5u d dir = (dir.map (Z1e d),true)∧b≤st∧st≤100000:=by
 unfold openIs at h
 simp only [Bool.and_eq_true,decide_eq_true_iff] at h
 obtain ⟨e1,e2,e3⟩:=h
 have h1:=ZcV hrb hrm e1
 obtain ⟨q6,q0,q1,q2,q3,q4,q5⟩:=Z6I e3
 rw [←q2,←q5,←q6] at h1
 exact h1
theorem merge_text {rb:RBf} (hrb:∀ c,c.size≤9000→RB c (rb c)) {rm:RMf} (hrm:∀ s,s.size≤1000000→RM s (rm s)) {d:List S122} {s0:List Int} {a b c:Int} {s4:List Int} {dir:List S145} {st:Int} (h:openIs rb rm d s0 a b c s4 dir st = true):Z5u d dir = (dir.map (Z1e d),true)∧ZaB (dir.map (Z1e d)) st = (st,(dir.map (Z1e d)).map chOf,true)∧(Z4 st ((dir.map (Z1e d)).map chOf)).2 = true∧dir.length≤60:=by
 obtain ⟨g1,g2,g3⟩:=Z5k hrm h
 obtain ⟨m1,m2,m3⟩:=Z96 hrb hrm h
 obtain ⟨-,-,b3,-⟩:=ZY g2
 have hm:=Z7v (d:=d) g3
 have hr:inR st 0 100000 = true:=Zr.2 (by omega)
 refine ⟨m1,by rw [ZaB,hm,hr];rfl,?_,Z66 g3⟩
 unfold Z4
 rw [if_pos (by rw [batchOk_map hm];exact hr)]
theorem Z8n (rb:RBf) (hrb:∀ c,c.size≤9000→RB c (rb c)) (rm:RMf) (hrm:∀ s,s.size≤1000000→RM s (rm s)) (d:List S122) (hl:d.length≤1048576) (s0:List Int) (a b c:Int) (s4:List Int) (dir:List S145) (st base term:Int) (conf:List Int) (hc:conf.length≤1048576) (h0:s0.length≤1048576) (h4:s4.length≤1048576) (h5:dir.length≤1048576):Ev (fun k => Zp.f k d s0 a b c s4 dir st base term conf) (Z9z rb rm d s0 a b c s4 dir st base term conf):=by
 unfold Zp.f Z9z
 have no:∀ r:Aft,r = noAft→Ev (fun k => Zp.j0 k base term conf true d s0 a b c s4 dir st) r:=fun r hr => by
  refine Ev.step (fun _ => rfl) ?_
  simp only [Zp.j0]
  exact Ev.pos trivial (Ev.done hr.symm)
 refine Ev.bind (Z6h rb hrb rm hrm d hl s0 a b c s4 dir st h0 h4 h5) (Ev.ite (fun e1 => ?_) (fun e1 => no _ ?_))
 ·by_cases e2:base = st
  ·rw [if_pos ⟨e1,e2⟩,show (base != st) = false by simpa using e2]
   obtain ⟨g1,g2,g3⟩:=Z5k hrm e1
   obtain ⟨b1,b2,-,-,b5,-,-⟩:=ZY g2
   obtain ⟨t1,t2,t3,t4⟩:=merge_text hrb hrm e1
   obtain ⟨ch,hch⟩:∃ ch,ch = (dir.map (Z1e d)).map chOf:=⟨_,rfl⟩
   rw [←hch] at t2 t3 ⊢
   have hcl:ch.length≤60:=by rw [hch];simpa using t4
   have hts:=Z3S st ch
   refine Ev.step (fun _ => rfl) ?_
   simp only [Zp.j0]
   exact Ev.neg (by simp) (Ev.bind (Ev.eq (Z6e d hl s0 a b c s4 dir st (by omega)) t1) (Ev.bind (Ev.eq (Zam (dir.map (Z1e d)) (by rw [List.length_map];omega) st) t2) (Ev.bind (Z3K st ch (by omega)) (Ev.bind (Z4a _ (by omega)) (Ev.bind (Zci rb hrb rm hrm d hl s0 (by omega) a b c (by omega) s4 dir st _ (frame_le _) base term conf hc) (Ev.now _))))))
  ·rw [if_neg (fun h => e2 h.2),show (base != st) = true by simpa using e2]
   exact no _ rfl
 ·rw [if_neg (fun h => e1 h.1)]
theorem Z1P {d:List S122} (h:Z1S d) {x:S122} (hx:x∈d):stands (Z8 x.f0) d = true∧Zn x.f0 d = x.f1:=by
 obtain ⟨i,hi,e⟩:=List.getElem_of_mem hx
 have he:d[i]? = some x:=by rw [List.getElem?_eq_getElem hi,e]
 obtain ⟨e1,e2⟩:=ahead_at h he rfl
 refine ⟨e2,?_⟩
 unfold Zn
 rw [if_pos e2,e1]
 unfold Z0k
 rw [Int.toNat_natCast,List.getD_eq_getElem?_getD,he]
 rfl
theorem Z4m {d:List S122} {key:ByteArray} (h:stands (Z8 key) d = true):∃ x∈d,x.f0 = key:=by
 obtain ⟨x,hx,he⟩:=Z4I h
 exact ⟨x,List.mem_of_getElem? hx,toList_inj.1 he⟩
theorem Z53 {d:List S122} (h:Z1S d) (key:ByteArray):stands (Z8 key) d = true↔∃ x∈d,x.f0 = key :=
 ⟨Z4m,fun ⟨x,hx,e⟩ => by rw [←e];exact (Z1P h hx).1⟩
theorem Z4w {d:List S122} {key:ByteArray} (h:¬ stands (Z8 key) d = true):Zn key d = ⟨#[]⟩:=by unfold Zn;rw [if_neg h]
theorem Z3W {name text:ByteArray} {d:List S122} {x:S122}:x∈putF name text d↔(x∈d∧x.f0≠name)∨x = ⟨name,text⟩:=by
 unfold putF
 simp only [List.mem_append,List.mem_filter,List.mem_singleton]
 constructor
 ·rintro ((⟨h,k⟩ | rfl) | ⟨h,k⟩)
  ·exact .inl ⟨h,lt_ne k⟩
  ·exact .inr rfl
  ·exact .inl ⟨h,(lt_ne k).symm⟩
 ·rintro (⟨h,k⟩ | rfl)
  ·rcases lt_tri x.f0 name with e | e | e
   ·exact .inl (.inl ⟨h,e⟩)
   ·exact absurd e k
   ·exact .inr ⟨h,e⟩
  ·exact .inl (.inr rfl)
theorem Zb8 {name text:ByteArray} {d:List S122} (h:Z1S d):Z1S (putF name text d):=by
 unfold putF Z1S
 rw [List.pairwise_append,List.pairwise_append]
 refine ⟨⟨List.Pairwise.filter _ h,List.pairwise_singleton _ _,fun x hx y hy => ?_⟩,List.Pairwise.filter _ h,fun x hx y hy => ?_⟩
 ·obtain rfl:=List.mem_singleton.1 hy
  exact (List.mem_filter.1 hx).2
 ·have hy:=(List.mem_filter.1 hy).2
  rcases List.mem_append.1 hx with hx | hx
  ·exact Z1H (List.mem_filter.1 hx).2 hy
  ·obtain rfl:=List.mem_singleton.1 hx
   exact hy
theorem Z2B {name text:ByteArray} {d:List S122} (h:Z1S d) (key:ByteArray):Zn key (putF name text d) = if key = name then text else Zn key d:=by
 have hu:=Zb8 (name:=name) (text:=text) h
 by_cases e:key = name
 ·subst e
  rw [if_pos rfl]
  exact (Z1P hu (x:=⟨key,text⟩) (Z3W.2 (.inr rfl))).2
 ·rw [if_neg e]
  by_cases hs:stands (Z8 key) d = true
  ·obtain ⟨x,hx,rfl⟩:=Z4m hs
   rw [(Z1P h hx).2,(Z1P hu (Z3W.2 (.inl ⟨hx,e⟩))).2]
  ·rw [Z4w hs,Z4w]
   intro hn
   obtain ⟨x,hx,rfl⟩:=Z4m hn
   rcases Z3W.1 hx with ⟨hx,-⟩ | rfl
   ·exact hs (Z1P h hx).1
   ·exact e rfl
theorem Z5a {name text:ByteArray} {d:List S122} (h:Z1S d) (key:ByteArray):stands (Z8 key) (putF name text d) = true↔key = name∨stands (Z8 key) d = true:=by
 rw [Z53 (Zb8 h),Z53 h]
 constructor
 ·rintro ⟨x,hx,rfl⟩
  rcases Z3W.1 hx with ⟨hx,-⟩ | rfl
  ·exact .inr ⟨x,hx,rfl⟩
  ·exact .inl rfl
 ·rintro (rfl | ⟨x,hx,rfl⟩)
  ·exact ⟨⟨key,text⟩,Z3W.2 (.inr rfl),rfl⟩
  ·by_cases e:x.f0 = name
   ·exact ⟨⟨name,text⟩,Z3W.2 (.inr rfl),e.symm⟩
   ·exact ⟨x,Z3W.2 (.inl ⟨hx,e⟩),rfl⟩
theorem Z8G {name:ByteArray} {d:List S122} {x:S122}:x∈dropF name d↔x∈d∧x.f0≠name:=by
 unfold dropF
 rw [List.mem_filter]
 simp
theorem Z9W {name:ByteArray} {d:List S122} (h:Z1S d) (key:ByteArray):stands (Z8 key) (dropF name d) = true↔key≠name∧stands (Z8 key) d = true:=by
 rw [Z53 (ZaJ name h),Z53 h]
 constructor
 ·rintro ⟨x,hx,rfl⟩
  have:=Z8G.1 hx
  exact ⟨this.2,x,this.1,rfl⟩
 ·rintro ⟨e,x,hx,rfl⟩
  exact ⟨x,Z8G.2 ⟨hx,e⟩,rfl⟩
theorem dropF_text {name:ByteArray} {d:List S122} (h:Z1S d) {key:ByteArray} (e:key≠name):Zn key (dropF name d) = Zn key d:=by
 by_cases hs:stands (Z8 key) d = true
 ·obtain ⟨x,hx,rfl⟩:=Z4m hs
  rw [(Z1P h hx).2,(Z1P (ZaJ name h) (Z8G.2 ⟨hx,e⟩)).2]
 ·rw [Z4w hs,Z4w (fun hn => hs ((Z9W h key).1 hn).2)]
def frs (l:List ByteArray):List Int:=l.flatMap fun c => bytesOf (frame c).1
def okRec (c:ByteArray):Prop:=1≤c.size∧c.size≤9000
theorem Z8H {c:ByteArray} (h:okRec c):bytesOf (frame c).1 = varL c.size++(bytesOf (four (sumOf c))++bytesOf c)∧(frame c).2 = true:=by
 rw [frame,if_pos (Zr.2 (by unfold okRec at h;omega))]
 simp only [Z07,Z1p,List.append_assoc,and_self]
theorem unf_fwd {s:ByteArray} {c:ByteArray} (hc:okRec c) {a b:Int} (h:At s a (bytesOf (frame c).1) b):Z0H s a = some (c,b):=by
 obtain ⟨hz1,hz2⟩:=hc
 have hf:=Z8H ⟨hz1,hz2⟩
 have hw:=h
 rw [hf.1] at h
 obtain ⟨p1,h⟩:=h.split
 obtain ⟨p2,p3⟩:=h.split
 have l2:(bytesOf (four (sumOf c))).length = 4:=by rw [Ze,Z3r]
 rw [l2] at p3 p2
 have hv:=Z5j p1 (by omega)
 generalize a + ((varL c.size).length:Int) = e at *
 have hb:=p3.2.1
 rw [Ze] at hb
 have i1:=p1.le;have i2:=p2.le;have i3:=p3.le
 have x1:s.extract (e + 4).toNat b.toNat = c:=Z0N (Z5N p3)
 have x2:s.extract a.toNat b.toNat = (frame c).1:=Z0N (Z5N hw)
 have hb':e + 4 + (c.size:Int) = b:=by omega
 unfold Z0H
 rw [hv,if_neg (by simp)]
 dsimp only
 rw [if_neg (by omega),hb',x1,x2,if_pos ⟨hf.2,rfl⟩]
theorem unf_at {s:ByteArray} {a b:Int} {c:ByteArray} (h:Z0H s a = some (c,b)):okRec c∧At s a (bytesOf (frame c).1) b:=by
 obtain ⟨h0,h1,h2,h3⟩:=Z4J h
 obtain ⟨k1,k2,k3⟩:=Z9v h
 have hok:okRec c:=by
  unfold frame at k1
  split at k1
  ·rename_i hi;have:=Zr.1 hi;exact ⟨by omega,by omega⟩
  ·cases k1
 refine ⟨hok,?_⟩
 have hlen:(bytesOf (frame c).1).length = (frame c).1.size:=Ze _
 have he:(bytesOf s).drop a.toNat = bytesOf (frame c).1++(bytesOf s).drop b.toNat:=by
  rw [←k3,Z0M,List.drop_take,show (bytesOf s).drop b.toNat = ((bytesOf s).drop a.toNat).drop (b.toNat - a.toNat) by rw [List.drop_drop];congr 1;omega,List.take_append_drop]
 have:=At.mk' h0 (by omega) he
 rw [hlen,k2] at this
 exact this
theorem unf_end {s:ByteArray}:Z0H s (s.size:Int) = none:=by
 cases h:Z0H s (s.size:Int) with
 | none => rfl
 | some x => obtain ⟨c,b⟩:=x;have:=Z4J h;omega
theorem Z75 (l:List ByteArray) (h:∀ c∈l,okRec c):l.length≤(frs l).length:=by
 induction l with
 | nil => simp [frs]
 | cons c t ih =>
  have:=ih (fun y hy => h y (List.mem_cons_of_mem _ hy))
  have hf:=(Z8H (h c List.mem_cons_self)).1
  have hc:=h c List.mem_cons_self
  unfold frs at this ⊢
  rw [List.flatMap_cons,List.length_append,hf]
  simp only [List.length_append,List.length_cons,Ze]
  unfold okRec at hc
  omega
theorem unfr_fwd {s:ByteArray}:∀ (l:List ByteArray) (m:Nat) (acc:List ByteArray) (a b:Int),(∀ c∈l,okRec c)→At s a (frs l) b→Z0H s b = none→l.length < m→unfr s m acc a = (acc++l,b)
 | [],m,acc,a,b,_,h,hb,hm => by
  have e:b = a:=by have:=h.2.1;simp [frs] at this;exact this
  subst e
  cases m with
  | zero => omega
  | succ m => rw [unfr,hb];simp
 | c::t,m,acc,a,b,hc,h,hb,hm => by
  unfold frs at h
  rw [List.flatMap_cons] at h
  obtain ⟨h1,h2⟩:=h.split
  cases m with
  | zero => simp at hm
  | succ m =>
   rw [unfr,unf_fwd (hc c List.mem_cons_self) h1]
   dsimp only
   rw [unfr_fwd t m (acc++[c]) _ b (fun y hy => hc y (List.mem_cons_of_mem _ hy)) h2 hb (by simp at hm;omega),List.append_assoc]
   rfl
theorem Zb3 {s:ByteArray} (hs:s.size≤20000) {l:List ByteArray} (hc:∀ c∈l,okRec c) {b:Int} (h:At s 0 (frs l) b) (hb:Z0H s b = none):Z00 s = (l,b):=by
 unfold Z00
 rw [if_neg (by omega)]
 have:=Z75 l hc
 have:=h.le
 rw [unfr_fwd l _ [] 0 b hc h hb (by omega)];rfl
theorem unfr_back (s:ByteArray):∀ (m:Nat) (acc:List ByteArray) (a:Int) (l:List ByteArray),(unfr s m acc a).1 = acc++l→0≤a→a≤s.size→(∀ c∈l,okRec c)∧At s a (frs l) (unfr s m acc a).2
 | 0,acc,a,l,h,h0,h1 => by
  rw [unfr] at h ⊢
  obtain rfl:l = []:=by simpa using h
  exact ⟨(fun c hc => by cases hc),At.nil h0 h1⟩
 | m + 1,acc,a,l,h,h0,h1 => by
  rw [unfr] at h ⊢
  cases hs:Z0H s a with
  | none =>
   rw [hs] at h
   obtain rfl:l = []:=by simpa using h
   exact ⟨(fun c hc => by cases hc),At.nil h0 h1⟩
  | some x =>
   obtain ⟨c,b⟩:=x
   rw [hs] at h
   dsimp only at h ⊢
   obtain ⟨r,hr⟩:=Zdo s m (acc++[c]) b
   have hl:l = c::r:=by
    rw [hr,List.append_assoc] at h
    exact (List.append_cancel_left h).symm
   subst hl
   obtain ⟨k1,k2⟩:=unf_at hs
   obtain ⟨j0,j1,j2,-⟩:=Z4J hs
   obtain ⟨i1,i2⟩:=unfr_back s m (acc++[c]) b r hr (by omega) j2
   refine ⟨fun y hy => ?_,?_⟩
   ·rcases List.mem_cons.1 hy with rfl | hy
    ·exact k1
    ·exact i1 y hy
   ·unfold frs
    rw [List.flatMap_cons]
    exact k2.trans i2
theorem Z5q (s:ByteArray):(∀ c∈(Z00 s).1,okRec c)∧At s 0 (frs (Z00 s).1) (Z00 s).2:=by
 unfold Z00
 split
 ·exact ⟨(fun c hc => by cases hc),At.nil (by omega) (by omega)⟩
 ·exact unfr_back s _ [] 0 _ (by simp) (by omega) (by omega)
theorem unf_cut {s:ByteArray} {c:ByteArray} (hc:okRec c) {a:Int} {p:Nat} (h:At s a ((bytesOf (frame c).1).take p) s.size) (hp:p < (frame c).1.size):Z0H s a = none:=by
 cases hs:Z0H s a with
 | none => rfl
 | some x =>
  exfalso
  obtain ⟨c',b⟩:=x
  obtain ⟨hc',k⟩:=unf_at hs
  obtain ⟨-,k3,-⟩:=Z9v hs
  have kb:=k.le
  have hl:((bytesOf (frame c).1).take p).length = p:=by rw [List.length_take,Ze];omega
  have he:=h.2.1
  rw [hl] at he
  have hd:(bytesOf s).drop a.toNat = (bytesOf (frame c).1).take p:=by
   have:=h.2.2.2
   rw [this,show (bytesOf s).drop ((s.size:Int)).toNat = [] by rw [List.drop_eq_nil_iff,Ze];omega,List.append_nil]
  have hpre:bytesOf (frame c).1 = bytesOf (frame c').1++((bytesOf s).drop b.toNat++(bytesOf (frame c).1).drop p):=by
   rw [←List.append_assoc,←k.2.2.2,hd,List.take_append_drop]
  have a1:At (frame c).1 0 (varL c'.size) (0 + ((varL c'.size).length:Int)):=by
   have h0:=At.whole (frame c).1
   rw [hpre,(Z8H hc').1] at h0
   simp only [List.append_assoc] at h0
   exact h0.split.1
  have a2:At (frame c).1 0 (varL c.size) (0 + ((varL c.size).length:Int)):=by
   have h0:=At.whole (frame c).1
   rw [(Z8H hc).1] at h0
   exact h0.split.1
  unfold okRec at hc hc'
  have e1:=Z5j a1 (by omega)
  have e2:=Z5j a2 (by omega)
  rw [e1] at e2
  have e3:(c'.size:Int) = (c.size:Int):=congrArg Prod.fst e2
  have e4:=Z82 (c:=c) hc
  have e5:=Z82 (c:=c') hc'
  have e6:c'.size = c.size:=by omega
  rw [e6] at e5
  omega
theorem rm_man {rm:RMf} (hrm:∀ s,s.size≤1000000→RM s (rm s)) {segs:List Int} {nx ba bt:Int} {cf:List Int} (h:(Z0R segs nx ba bt cf).2 = true):rm (Z0R segs nx ba bt cf).1 = (segs,nx,ba,bt,cf,true):=by
 have hs:=Z6N (segs:=segs) (nx:=nx) (ba:=ba) (bt:=bt) (cf:=cf)
 exact Ev.uniq (hrm _ (by omega)).1 (Z4q _ (by omega) segs nx ba bt cf (Prod.ext rfl h))
theorem openIs_of {rb:RBf} {rm:RMf} {d:List S122} {s0:List Int} {a b c:Int} {s4:List Int} {dir:List S145} {st:Int} (h:ZL rb rm d = (s0,a,b,c,s4,dir,st,[],0)):openIs rb rm d s0 a b c s4 dir st = true:=by
 unfold openIs Z2O
 rw [h]
 simp
theorem after_eq {rb:RBf} {rm:RMf} {d:List S122} {l:List S119} {r:Aft} (h:Z3E rb rm d l = r) (hk:r.2.2.2.2.2.2.2.2 = true):(ZF d l).2 = (l.length:Int)∧r.2.2.2.2.2.2.2.1 = l∧ZL rb rm (ZF d l).1 = (r.1,r.2.1,r.2.2.1,r.2.2.2.1,r.2.2.2.2.1,r.2.2.2.2.2.1,r.2.2.2.2.2.2.1,[],0):=by
 unfold Z3E at h
 split at h
 ·rename_i hc
  subst h
  obtain ⟨h1,h2,h3⟩:=hc
  exact ⟨h1,rfl,Prod.ext rfl (Prod.ext rfl (Prod.ext rfl (Prod.ext rfl (Prod.ext rfl (Prod.ext rfl (Prod.ext rfl (Prod.ext h3 h2)))))))⟩
 ·subst h;cases hk
theorem Z7q:∀ (l:List S119) (d:List S122) (n:Nat),(Z1k l d n).2 = n + l.length→(Z1k l d n).1 = l.foldl Z0q d∧∀ p r q,l = p++r::q→(Z1F (p.foldl Z0q d) r).2 = true
 | [],d,n,_ => ⟨rfl,fun p r q h => by simp at h⟩
 | x::t,d,n,h => by
  rw [Z1k] at h ⊢
  by_cases hx:(Z1F d x).2 = true
  ·rw [if_pos hx] at h ⊢
   have e:(Z1F d x).1 = Z0q d x:=by
    unfold Z1F at hx ⊢
    split at hx
    ·rename_i h1
     rw [if_pos h1]
     split at hx
     ·rename_i h2;rw [if_pos h2]
     ·cases hx
    ·cases hx
   rw [e] at h ⊢
   obtain ⟨i1,i2⟩:=Z7q t (Z0q d x) (n + 1) (by rw [h,List.length_cons];omega)
   refine ⟨i1,fun p r q hp => ?_⟩
   cases p with
   | nil =>
    rw [List.nil_append] at hp
    injection hp with h1 h2
    rw [←h1];exact hx
   | cons y p =>
    rw [List.cons_append] at hp
    injection hp with h1 h2
    rw [List.foldl_cons,←h1]
    exact i2 p r q h2
  ·rw [if_neg hx] at h
   simp at h
theorem Zac {d:List S122} (hd:ZT d = true) {l:List S119} (hl:l.length≤60) (h:(ZF d l).2 = (l.length:Int)):(ZF d l).1 = l.foldl Z0q d∧∀ p r q,l = p++r::q→(Z1F (p.foldl Z0q d) r).2 = true:=by
 unfold ZF at h ⊢
 rw [if_pos (by rw [hd,decide_eq_true hl];rfl)] at h ⊢
 exact Z7q l d 0 (by dsimp only at h;omega)
def fullT (rb:RBf) (t:ByteArray):Prop:=endOn rb 0 (Z00 t).1 = (t.size:Int)
theorem ZaH (rb:RBf):∀ (l:List ByteArray) (a:Int),endOn rb a l≤frSum a l
 | [],_ => Int.le_refl _
 | c::t,a => by
  rw [endOn,frSum]
  split
  ·exact ZaH rb t _
  ·have:=(Z86 t (a + ((frame c).1.size:Int))).1;omega
theorem endOn_all (rb:RBf):∀ (l:List ByteArray) (a:Int),(∀ c∈l,okRec c)→endOn rb a l = frSum a l→∀ c∈l,(rb c).2.2 = true
 | [],_,_,_,c,hc => by cases hc
 | x::t,a,h,e,c,hc => by
  rw [endOn,frSum] at e
  have hx:=h x List.mem_cons_self
  have hz:=Z82 (c:=x) hx
  have hg:=(Z86 t (a + ((frame x).1.size:Int))).1
  unfold okRec at hx
  by_cases hk:(rb x).2.2 = true
  ·rw [if_pos hk] at e
   rcases List.mem_cons.1 hc with rfl | hc
   ·exact hk
   ·exact endOn_all rb t _ (fun y hy => h y (List.mem_cons_of_mem _ hy)) e c hc
  ·rw [if_neg hk] at e;omega
theorem Z7k (rb:RBf):∀ (l:List ByteArray) (a:Int),(∀ c∈l,(rb c).2.2 = true)→endOn rb a l = frSum a l
 | [],_,_ => rfl
 | x::t,a,h => by rw [endOn,frSum,if_pos (h x List.mem_cons_self),Z7k rb t _ (fun y hy => h y (List.mem_cons_of_mem _ hy))]
theorem segEnd_le (rb:RBf) (d:List S122) (n:Int):Z2U rb d n≤((Zn (segT n) d).size:Int):=by
 obtain ⟨h1,h2⟩:=Z4r (Zn (segT n) d)
 have:=ZaH rb (Z00 (Zn (segT n) d)).1 0
 unfold Z2U;omega
theorem Z9b {rb:RBf} {t:ByteArray} (h:fullT rb t):(∀ c∈(Z00 t).1,(rb c).2.2 = true∧okRec c)∧(Z00 t).2 = (t.size:Int)∧At t 0 (frs (Z00 t).1) t.size:=by
 unfold fullT at h
 obtain ⟨h1,h2⟩:=Z4r t
 obtain ⟨b1,b2⟩:=Z5q t
 have h3:=ZaH rb (Z00 t).1 0
 have e:(Z00 t).2 = (t.size:Int):=by omega
 rw [e] at b2
 exact ⟨fun c hc => ⟨endOn_all rb _ 0 b1 (by omega) c hc,b1 c hc⟩,e,b2⟩
theorem Zc9 (rb:RBf) (seg:Int) (c:ByteArray) (hc:(rb c).2.2 = true):∀ (l:List ByteArray) (a:Int) (r:List S145×List ByteArray×Int),(∀ x∈l,(rb x).2.2 = true)→Z1K rb seg a (l++[c]) r = ((Z1K rb seg a l r).1++Z27 seg (frSum a l + ((frame c).1.size:Int) - (c.size:Int) + ((Zx (rb c).1.toNat).size:Int) + ((Zx (rb c).2.1.length).size:Int)) (rb c).2.1,(Z1K rb seg a l r).2.1++[c],mx (Z1K rb seg a l r).2.2 (rb c).1)
 | [],a,r,_ => by simp only [List.nil_append,Z1K,frSum];rw [if_pos hc]
 | x::t,a,r,h => by
  rw [List.cons_append,Z1K,Z1K,frSum,if_pos (h x List.mem_cons_self),if_pos (h x List.mem_cons_self)]
  exact Zc9 rb seg c hc t _ _ (fun y hy => h y (List.mem_cons_of_mem _ hy))
theorem unframe_snoc {rb:RBf} {t:ByteArray} (h:fullT rb t) {c:ByteArray} (hc:okRec c) (hs:t.size + (frame c).1.size≤20000):Z00 (t++(frame c).1) = ((Z00 t).1++[c],((t.size + (frame c).1.size:Nat):Int)):=by
 obtain ⟨h1,h2,h3⟩:=Z9b h
 have hz:(t++(frame c).1).size = t.size + (frame c).1.size:=size_append ..
 have hall:At (t++(frame c).1) 0 (frs ((Z00 t).1++[c])) ((t.size + (frame c).1.size:Nat):Int):=by
  have hw:=At.whole (t++(frame c).1)
  rw [hz,Z07,h3.all] at hw
  unfold frs at hw ⊢
  rw [List.flatMap_append]
  simpa using hw
 refine Zb3 (by omega) (fun x hx => ?_) hall (by rw [←hz];exact unf_end)
 rcases List.mem_append.1 hx with hx | hx
 ·exact (h1 x hx).2
 ·obtain rfl:=List.mem_singleton.1 hx;exact hc
def Z15 (rb:RBf) (d:List S122) (segs:List Int):List S145:=segs.flatMap fun n => (Z0Z rb d n).1
def Z1A (rb:RBf) (d:List S122) (st:Int) (segs:List Int):Int:=segs.foldl (fun s n => mx s (Z0Z rb d n).2.2) st
theorem ZaL {rb:RBf} {d:List S122} (z:Int):∀ (init:List Int) (sp:List S145) (st:Int) (r:List S145×Int),Z2R rb d (init++[z]) sp st = some r→(∀ n∈init,Z2U rb d n = ((Zn (segT n) d).size:Int))∧r = (sp++Z15 rb d (init++[z]),Z1A rb d st (init++[z]))
 | [],sp,st,r,h => by
  simp only [List.nil_append,Z2R] at h
  rw [if_neg (by simp)] at h
  obtain rfl:=Option.some.inj h
  exact ⟨(fun n hn => by cases hn),by simp [Z15,Z1A]⟩
 | n::t,sp,st,r,h => by
  rw [List.cons_append,Z2R] at h
  split at h
  ·cases h
  ·rename_i hn
   have hn':¬ Z2U rb d n < ((Zn (segT n) d).size:Int):=fun e => hn ⟨e,by simp⟩
   have hle:=segEnd_le rb d n
   obtain ⟨i1,i2⟩:=ZaL z t _ _ r h
   refine ⟨fun m hm => ?_,?_⟩
   ·rcases List.mem_cons.1 hm with rfl | hm
    ·omega
    ·exact i1 m hm
   ·rw [i2]
    simp [Z15,Z1A]
theorem Z7B {rb:RBf} {d:List S122}:∀ (segs:List Int) (sp:List S145) (st:Int),(∀ n∈segs,Z2U rb d n = ((Zn (segT n) d).size:Int))→Z2R rb d segs sp st = some (sp++Z15 rb d segs,Z1A rb d st segs)
 | [],sp,st,_ => by simp [Z2R,Z15,Z1A]
 | n::t,sp,st,h => by
  have hn:=h n List.mem_cons_self
  rw [Z2R,if_neg (fun e => by omega),Z7B t _ _ (fun y hy => h y (List.mem_cons_of_mem _ hy))]
  simp [Z15,Z1A]
theorem Z5I (rb:RBf) (d:List S122) (z:Int):∀ (init:List Int) (e:Int),endOf rb d (init++[z]) e = Z2U rb d z
 | [],e => rfl
 | n::t,e => by rw [List.cons_append,endOf,Z5I rb d z t]
theorem Z4z (init:List Int) (z:Int):Z2Q (init++[z]) = z:=by
 unfold Z2Q
 rw [List.length_append,List.length_singleton,show ((init.length + 1:Nat):Int) - 1 = ((init.length:Nat):Int) by omega,ZbS,List.getD_eq_getElem?_getD,List.getElem?_append_right (Nat.le_refl _)]
 simp
theorem Z2j {rb:RBf} {rm:RMf} (hrm:∀ s,s.size≤1000000→RM s (rm s)) {d:List S122} {s0:List Int} {a b c:Int} {s4:List Int} {dir:List S145} {st:Int} (h:ZL rb rm d = (s0,a,b,c,s4,dir,st,[],0)) :
  ZT d = true∧manOk s0 a b c s4 = true∧stands (Z8 ⟨#[109]⟩) d = true∧manAt rm d = (s0,a,b,c,s4,true)∧(∀ n∈s0,stands (Z8 (segT n)) d = true)∧Z3t d = []∧Z2a s0 d = []∧(∀ n∈s0,fullT rb (Zn (segT n) d))∧dirOk dir = true∧dir = (Z15 rb d s0).foldl layS []∧st = Z1A rb d b s0:=by
 have h0:(ZL rb rm d).2.2.2.2.2.2.2.2 = 0:=by rw [h]
 have hc:=Z9k h0
 obtain ⟨g1,g2,g3⟩:=Z9a hrm h0
 rw [h] at g2 g3
 obtain ⟨p1,p2,p3,sp,st',p4,p5,p6⟩:=Z8U hc
 unfold ZL at h
 rw [if_pos hc,p6] at h
 simp only [Prod.mk.injEq] at h
 obtain ⟨e0,e1,e2,e3,e4,e5,e6,e7,-⟩:=h
 simp only [Bool.and_eq_true] at p2
 have hm:manAt rm d = (s0,a,b,c,s4,true):=Prod.ext e0 (Prod.ext e1 (Prod.ext e2 (Prod.ext e3 (Prod.ext e4 p2.2))))
 rw [hm] at p3 p4 e7
 dsimp only at p3 p4 e7 g2 g3
 have hb:=(ZY g2).1
 obtain ⟨init,z,rfl⟩:∃ init z,s0 = init++[z]:=by
  rcases List.eq_nil_or_concat s0 with rfl | ⟨i,z,e⟩
  ·simp at hb
  ·exact ⟨i,z,by rw [e];simp⟩
 rw [List.append_eq_nil_iff,List.append_eq_nil_iff] at e7
 obtain ⟨⟨e8,e9⟩,e10⟩:=e7
 rw [Z4z,Z5I] at e10
 obtain ⟨f1,f2⟩:=ZaL z init [] b _ p4
 rw [List.nil_append] at f2
 have hz:Z2U rb d z = ((Zn (segT z) d).size:Int):=by
  have:=segEnd_le rb d z
  unfold Z5o at e10
  by_cases hlt:Z2U rb d z < ((Zn (segT z) d).size:Int)
  ·rw [if_pos hlt] at e10;cases e10
  ·omega
 refine ⟨g1,g2,p2.1,hm,fun n hn => List.all_eq_true.1 p3 n hn,e8,e9,fun n hn => ?_,g3,?_,?_⟩
 ·rcases List.mem_append.1 hn with hn | hn
  ·exact f1 n hn
  ·obtain rfl:=List.mem_singleton.1 hn;exact hz
 ·rw [←e5];exact congrArg (fun x => List.foldl layS [] x.1) f2
 ·rw [←e6];exact congrArg Prod.snd f2
theorem Z9h {rb:RBf} {rm:RMf} {d:List S122} {s0:List Int} {a b c:Int} {s4:List Int} (hd:ZT d = true) (hs:stands (Z8 ⟨#[109]⟩) d = true) (hm:manAt rm d = (s0,a,b,c,s4,true)) (hn:s0≠[]) (hall:∀ n∈s0,stands (Z8 (segT n)) d = true) (h1:Z3t d = []) (h2:Z2a s0 d = []) (h3:∀ n∈s0,fullT rb (Zn (segT n) d)) (hk:dirOk ((Z15 rb d s0).foldl layS []) = true) :
  ZL rb rm d = (s0,a,b,c,s4,(Z15 rb d s0).foldl layS [],Z1A rb d b s0,[],0):=by
 have hl:Z0G rb rm d = (s0,a,b,c,s4,(Z15 rb d s0).foldl layS [],Z1A rb d b s0,endOf rb d s0 0,0):=by
  unfold Z0G
  rw [if_pos hd,hs,hm]
  dsimp only
  rw [if_pos (show (true && true) = true from rfl),if_pos (List.all_eq_true.2 hall),Z7B s0 [] b h3,List.nil_append]
  dsimp only
  rw [if_pos hk]
 obtain ⟨init,z,rfl⟩:∃ init z,s0 = init++[z]:=by
  rcases List.eq_nil_or_concat s0 with rfl | ⟨i,z,e⟩
  ·exact absurd rfl hn
  ·exact ⟨i,z,by rw [e];simp⟩
 have hz:=h3 z (by simp)
 unfold ZL
 rw [hl,if_pos rfl]
 dsimp only
 rw [h1,h2,Z4z,Z5I]
 unfold Z5o
 rw [if_neg (by unfold fullT at hz;unfold Z2U;omega)]
 rfl
def putP (name text:ByteArray) (d:List S147):List S147:=d.filter (fun x => lessK x.f0 name)++[(⟨name,text⟩:S147)]++d.filter (fun x => lessK name x.f0)
theorem ZcF (d:List S147) (hd:d.length≤1048576) (name text:ByteArray):∀ (rest:List S147) (n:Nat) (acc:List S147),d.drop n = rest→acc.length + rest.length≤4000000 →
  Ev (fun k => Z0n.l1 k d name acc (n:Int)) (acc++rest.filter fun x => lessK name x.f0):=by
 intro rest
 induction rest with
 | nil =>
  intro n acc h _
  have:=ZE h
  refine Ev.step (fun _ => rfl) ?_
  simp only [Z0n.l1]
  exact Ev.neg (by omega) (Ev.done (by simp))
 | cons x t ih =>
  intro n acc h h1
  obtain ⟨k1,-,k3⟩:=Zi h
  rw [List.length_cons] at h1
  refine Ev.step (fun _ => rfl) ?_
  simp only [Z0n.l1,Z4t h,Z5 (show n≤9223372036854775806 by omega)]
  refine Ev.pos (by omega) (Ev.pos (by omega) (Ev.ite (fun hc => Ev.pos (by omega) (Ev.eq (ih (n + 1) _ k3 (by simp;omega)) ?_)) (fun hc => Ev.eq (ih (n + 1) acc k3 (by omega)) ?_)))
  ·rw [List.filter_cons_of_pos (by exact hc)];simp
  ·rw [List.filter_cons_of_neg (by exact hc)]
theorem Zck (d:List S147) (hd:d.length≤1048576) (name text:ByteArray):∀ (rest:List S147) (n:Nat) (acc:List S147),d.drop n = rest→acc.length + rest.length≤1048576→acc++rest.filter (fun x => lessK x.f0 name) = d.filter (fun x => lessK x.f0 name) →
  Ev (fun k => Z0n.l0 k d name text acc (n:Int)) (putP name text d):=by
 intro rest
 induction rest with
 | nil =>
  intro n acc h h1 he
  have:=ZE h
  rw [List.filter_nil,List.append_nil] at he
  rw [List.length_nil] at h1
  refine Ev.step (fun _ => rfl) ?_
  simp only [Z0n.l0]
  refine Ev.neg (by omega) (Ev.pos (by omega) (Ev.eq (ZcF d hd name text d 0 _ rfl (by simp;omega)) ?_))
  rw [he];rfl
 | cons x t ih =>
  intro n acc h h1 he
  obtain ⟨k1,-,k3⟩:=Zi h
  rw [List.length_cons] at h1
  refine Ev.step (fun _ => rfl) ?_
  simp only [Z0n.l0,Z4t h,Z5 (show n≤9223372036854775806 by omega)]
  refine Ev.pos (by omega) (Ev.pos (by omega) (Ev.ite (fun hc => Ev.pos (by omega) (ih (n + 1) _ k3 (by simp;omega) ?_)) (fun hc => ih (n + 1) acc k3 (by omega) ?_)))
  ·rw [List.filter_cons_of_pos (by exact hc)] at he;rw [←he];simp
  ·rw [List.filter_cons_of_neg (by exact hc)] at he;exact he
theorem ZcC (d:List S147) (hd:d.length≤1048576) (name text:ByteArray):Ev (fun k => Z0n.f k d name text) (putP name text d) :=
 Zck d hd name text d 0 [] rfl (by simp;omega) (by simp)
def cutP (name:ByteArray) (d:List S147):List S147:=d.filter fun x => !decide (x.f0 = name)
def pairsUp (l:List S147):Prop:=l.Pairwise fun x y => lessK x.f0 y.f0 = true
theorem Zcz (name:ByteArray) (d:List S147) (hd:d.length≤1048576):∀ (rest:List S147) (n:Nat) (acc:List S147),d.drop n = rest→acc.length + rest.length≤1048576 →
  Ev (fun k => Z1v.l0 k d name acc (n:Int)) (acc++cutP name rest):=by
 intro rest
 induction rest with
 | nil =>
  intro n acc h _
  have:=ZE h
  refine Ev.step (fun _ => rfl) ?_
  simp only [Z1v.l0]
  exact Ev.neg (by omega) (Ev.done (by simp [cutP]))
 | cons x t ih =>
  intro n acc h h1
  obtain ⟨k1,-,k3⟩:=Zi h
  rw [List.length_cons] at h1
  refine Ev.step (fun _ => rfl) ?_
  simp only [Z1v.l0,Z4t h,Z5 (show n≤9223372036854775806 by omega)]
  refine Ev.pos (by omega) (Ev.pos (by omega) (Ev.ite (fun hc => Ev.eq (ih (n + 1) acc k3 (by omega)) ?_) (fun hc => Ev.pos (by omega) (Ev.eq (ih (n + 1) _ k3 (by simp;omega)) ?_))))
  ·unfold cutP;rw [List.filter_cons_of_neg (by simp [toList_inj.1 hc])]
  ·unfold cutP;rw [List.filter_cons_of_pos (by simp;exact fun e => hc (by rw [e]))];simp
theorem Zch (d:List S147) (hd:d.length≤1048576) (name:ByteArray):Ev (fun k => Z1v.f k d name) (cutP name d) :=
 Ev.eq (Zcz name d hd d 0 [] rfl (by simp;omega)) (by simp)
theorem cutP_parts (name:ByteArray) {d:List S147} (hu:pairsUp d):d.filter (fun x => lessK x.f0 name)++d.filter (fun x => lessK name x.f0) = cutP name d:=by
 induction d with
 | nil => rfl
 | cons x t ih =>
  have ht:=(List.pairwise_cons.mp hu).2
  have ih:=ih ht
  unfold cutP at ih ⊢
  rcases lt_tri x.f0 name with h | h | h
  ·have h':¬ lessK name x.f0 = true:=fun e => by have:=Z1H h e;rw [Z2Z] at this;cases this
   rw [List.filter_cons_of_pos (by exact h),List.filter_cons_of_neg (by exact h'),List.filter_cons_of_pos (by simpa using lt_ne h),List.cons_append,ih]
  ·have h1:¬ lessK x.f0 name = true:=by rw [h,Z2Z];simp
   have h2:¬ lessK name x.f0 = true:=by rw [h,Z2Z];simp
   rw [List.filter_cons_of_neg (by exact h1),List.filter_cons_of_neg (by exact h2),List.filter_cons_of_neg (by simp [h]),ih]
  ·have hn:∀ y∈t,¬ lessK y.f0 name = true:=fun y hy e => by
    have:=Z1H (Z1H h ((List.pairwise_cons.mp hu).1 y hy)) e
    rw [Z2Z] at this;cases this
   have h':¬ lessK x.f0 name = true:=fun e => by have:=Z1H h e;rw [Z2Z] at this;cases this
   have e0:t.filter (fun x => lessK x.f0 name) = []:=List.filter_eq_nil_iff.mpr hn
   rw [e0,List.nil_append] at ih
   rw [List.filter_cons_of_neg (by exact h'),List.filter_cons_of_pos (by exact h),List.filter_cons_of_pos (by simpa using (lt_ne h).symm),e0,List.nil_append,ih]
theorem layS_map (g:S145→S147) (hg:∀ x,(g x).f0 = x.f0) (out:List S145) (s:S145):(layS out s).map g = (out.map g).filter (fun x => lessK x.f0 s.f0)++(if s.f3 = -1 then [] else [g s])++(out.map g).filter (fun x => lessK s.f0 x.f0):=by
 unfold layS
 rw [List.map_append,List.map_append,List.filter_map,List.filter_map]
 have e1:((fun x:S147 => lessK x.f0 s.f0) ∘ g) = fun x => lessK x.f0 s.f0:=funext fun x => by simp [hg]
 have e2:((fun x:S147 => lessK s.f0 x.f0) ∘ g) = fun x => lessK s.f0 x.f0:=funext fun x => by simp [hg]
 rw [e1,e2]
 congr 2
 split
 ·rfl
 ·rfl
theorem pairsUp_map (g:S145→S147) (hg:∀ x,(g x).f0 = x.f0) {out:List S145} (h:Z46 out):pairsUp (out.map g):=by
 unfold pairsUp
 rw [List.pairwise_map]
 exact h.imp fun {x y} hxy => by rw [hg,hg];exact hxy
theorem layS_cut (g:S145→S147) (hg:∀ x,(g x).f0 = x.f0) {out:List S145} (h:Z46 out) {s:S145} (hs:s.f3 = -1):(layS out s).map g = cutP s.f0 (out.map g):=by
 rw [layS_map g hg,if_pos hs,List.append_nil,cutP_parts _ (pairsUp_map g hg h)]
theorem layS_put (g:S145→S147) (hg:∀ x,(g x).f0 = x.f0) (out:List S145) {s:S145} (hs:¬ s.f3 = -1):(layS out s).map g = putP s.f0 (g s).f1 (out.map g):=by
 rw [layS_map g hg,if_neg hs]
 unfold putP
 rw [←hg s]
def mapDone (r:List S147):List S147×Bool:=if mapOk r = true then (r,true) else ([],false)
theorem Zce (d':List S122) (z bs:Int) (hz:True) (bl:List S162) (hbl:bl.length≤60) (hv:∀ x∈bl,x.f1.size≤40):∀ (rest:List S162) (n:Nat) (a b:Int) (dir:List S145),bl.drop n = rest→At (Zn (segT z) d') a (rest.flatMap Z10) b→Z46 dir→dir.length + rest.length≤1000→Ev (fun k => Z04.l0 k (dir.map (Z1e d')) (n:Int) bs bl) (mapDone (((Z27 z a rest).foldl layS dir).map (Z1e d'))):=by
 intro rest
 induction rest with
 | nil =>
  intro n a b dir h hat hu hl
  have:=ZE h
  rw [List.length_nil] at hl
  refine Ev.step (fun _ => rfl) ?_
  simp only [Z04.l0]
  refine Ev.neg (by omega) (Ev.bind (Z5X _ (by rw [List.length_map];omega)) ?_)
  rw [Z27,List.foldl_nil,mapDone]
  exact Ev.ite (fun e => Ev.done (by rw [if_pos e])) (fun e => Ev.done (by rw [if_neg e]))
 | cons x t ih =>
  intro n a b dir h hat hu hl
  obtain ⟨h1,-,h3⟩:=Zi h
  have hx:=hv x (List.mem_of_mem_drop (h ▸ List.mem_cons_self))
  rw [List.length_cons] at hl
  rw [List.flatMap_cons] at hat
  obtain ⟨p1,p2⟩:=hat.split
  have hcl:=Zd7 x
  have p1':=p1
  unfold Z10 at p1'
  obtain ⟨-,q2⟩:=p1'.split
  rw [show flagL x.f2::Go.Ep.sh x.f1 = [flagL x.f2]++(varL x.f1.size++bytesOf x.f1) from rfl] at q2
  obtain ⟨-,q3⟩:=q2.split
  obtain ⟨-,q4⟩:=q3.split
  have l0:(Go.Ep.sh x.f0).length = (ZM x.f0).size:=by rw [←Z3I,Ze]
  have l1:(varL x.f1.size).length = (Zx x.f1.size).size:=by rw [←Z1p,Ze]
  rw [l0,l1] at q4
  rw [hcl] at p2
  have hle:=q4.le
  rw [Ze] at hle
  refine Ev.step (fun _ => rfl) ?_
  simp only [Z04.l0,Z34 h,Z5 (show n≤9223372036854775806 by omega)]
  have hpair:∀ y:S145,(Z1e d' y).f0 = y.f0:=fun y => rfl
  have hlay:∀ s:S145,(layS dir s).length≤dir.length + 1:=fun s => laySl dir s
  rw [Z27,List.foldl_cons]
  have ea:a + ((ZM x.f0).size:Int) + 1 + ((Zx x.f1.size).size:Int) + (x.f1.size:Int) = a + (((ZM x.f0).size + 1 + (Zx x.f1.size).size + x.f1.size:Nat):Int):=by omega
  rw [ea]
  refine Ev.pos (by omega) (Ev.pos (by omega) (Ev.ite (fun e => ?_) (fun e => ?_)))
  ·rw [if_pos e]
   have hs:=hlay (⟨x.f0,z,0,-1⟩:S145)
   refine Ev.bind (Zch _ (by rw [List.length_map];omega) x.f0) ?_
   rw [←layS_cut (Z1e d') hpair hu (s:=(⟨x.f0,z,0,-1⟩:S145)) rfl]
   exact ih (n + 1) _ b _ h3 p2 (Z90 hu _) (by omega)
  ·rw [if_neg e]
   obtain ⟨sp,hsp⟩:∃ sp:S145,sp = ⟨x.f0,z,a + ((ZM x.f0).size:Int) + 1 + ((Zx x.f1.size).size:Int),(x.f1.size:Int)⟩:=⟨_,rfl⟩
   rw [←hsp]
   have hs:=hlay sp
   have hval:(Z1e d' sp).f1 = x.f1:=by
    rw [hsp]
    unfold Z1e
    dsimp only
    apply Z0N
    rw [←Z5N q4]
    have hb:=q4.2.1
    simp only [List.length_singleton,Ze] at hb
    congr 2
    all_goals ((try simp only [List.length_singleton,Ze]);omega)
   have hn:¬ sp.f3 = -1:=by rw [hsp];dsimp only;omega
   refine Ev.bind (ZcC _ (by rw [List.length_map];omega) x.f0 x.f1) ?_
   have e2:=layS_put (Z1e d') hpair dir hn
   rw [hval,show sp.f0 = x.f0 by rw [hsp]] at e2
   rw [←e2]
   exact ih (n + 1) _ b _ h3 p2 (Z90 hu _) (by omega)
theorem rb_bat {rb:RBf} (hrb:∀ c,c.size≤9000→RB c (rb c)) {bs:Int} {bl:List S162} (h:(Z4 bs bl).2 = true):rb (Z4 bs bl).1 = (bs,bl,true)∧okRec (Z4 bs bl).1:=by
 have hs:=Z3S bs bl
 have e:Z4 bs bl = ((Z4 bs bl).1,true):=Prod.ext rfl h
 have hz:=Z9r e
 have:=Z7s bs.toNat
 exact ⟨Ev.uniq (hrb _ (by omega)).1 (Z5f _ (by omega) bs bl e),by omega,by omega⟩
theorem Z94 {a b:Int} (ha:0≤a∧a≤999) (hb:0≤b∧b≤999) (h:segT a = segT b):a = b:=by
 have:=ZdQ (a:=a.toNat) (b:=b.toNat) (by omega) (by omega) (by rw [show ((a.toNat:Nat):Int) = a by omega,show ((b.toNat:Nat):Int) = b by omega];exact h)
 omega
theorem segT_head {a:Int} (ha:0≤a∧a≤999) (x:Int) (t:List Int) (hx:x≠103):bytesOf (segT a)≠x::t:=fun h => by
 rw [show a = ((a.toNat:Nat):Int) by omega,Z8I (by omega),Z07] at h
 rw [show bytesOf (⟨#[103]⟩:ByteArray) = [103] from rfl] at h
 injection h with h1 h2
 exact hx h1.symm
theorem Zab {a:Int} (ha:0≤a∧a≤999):segT a≠⟨#[109]⟩∧segT a≠⟨#[109,43]⟩ :=
 ⟨fun h => segT_head ha 109 [] (by decide) (by rw [h];rfl),fun h => segT_head ha 109 [43] (by decide) (by rw [h];rfl)⟩
theorem rise_pw (lo hi:Int):∀ (l:List Int) (p:Option Int),rise lo hi p l = true→l.Pairwise (· < ·)∧∀ q,p = some q→∀ x∈l,q < x
 | [],_,_ => ⟨List.Pairwise.nil,fun _ _ x hx => by cases hx⟩
 | x::t,p,h => by
  have hh:rise lo hi (some x) t = true∧∀ q,p = some q→q < x:=by
   cases p with
   | none => simp only [rise,Bool.and_eq_true] at h;exact ⟨h.2,fun q e => by cases e⟩
   | some q => simp only [rise,Bool.and_eq_true] at h;exact ⟨h.2.2,fun q' e => by injection e with e;subst e;exact of_decide_eq_true h.2.1⟩
  obtain ⟨i1,i2⟩:=rise_pw lo hi t (some x) hh.1
  have i2:=i2 x rfl
  refine ⟨List.Pairwise.cons i2 i1,fun q hq y hy => ?_⟩
  have:=hh.2 q hq
  rcases List.mem_cons.1 hy with rfl | hy
  ·exact this
  ·have:=i2 y hy;omega
theorem Z9f {segs:List Int} {nx ba bt:Int} {cf:List Int} (h:manOk segs nx ba bt cf = true):segs.Pairwise (· < ·)∧(∀ x∈segs,x < nx):=by
 have hb:=(ZY h).2.2.2.2.2.1
 simp only [manOk,Bool.and_eq_true] at h
 refine ⟨(rise_pw _ _ _ _ h.2.2.1).1,fun x hx => ?_⟩
 have hr:=h.2.2.1
 have:∀ (l:List Int) (p:Option Int),rise 0 (nx - 1) p l = true→∀ x∈l,x≤nx - 1:=by
  intro l
  induction l with
  | nil => intro p _ x hx;cases hx
  | cons y t ih =>
   intro p h x hx
   have hy:inR y 0 (nx - 1) = true∧rise 0 (nx - 1) (some y) t = true:=by
    cases p with
    | none => simp only [rise,Bool.and_eq_true] at h;exact h
    | some q => simp only [rise,Bool.and_eq_true] at h;exact ⟨h.1,h.2.2⟩
   rcases List.mem_cons.1 hx with rfl | hx
   ·exact (Zr.1 hy.1).2
   ·exact ih _ hy.2 x hx
 have:=this segs none hr x hx
 omega
theorem changes_at {bs:Int} {bl:List S162} (h:(Z4 bs bl).2 = true) (T:ByteArray):At (T++(frame (Z4 bs bl).1).1) ((T.size:Int) + ((frame (Z4 bs bl).1).1.size:Int) - ((Z4 bs bl).1.size:Int) + ((Zx bs.toNat).size:Int) + ((Zx bl.length).size:Int)) (bl.flatMap Z10) ((T.size + (frame (Z4 bs bl).1).1.size:Nat):Int):=by
 have e:Z4 bs bl = ((Z4 bs bl).1,true):=Prod.ext rfl h
 have hz:=Z9r e
 have hv:=Z7s bs.toNat
 have hs:=Z3S bs bl
 have hok:okRec (Z4 bs bl).1:=⟨by omega,by omega⟩
 have hf:=Z82 (c:=(Z4 bs bl).1) hok
 have hw:=At.whole (T++(frame (Z4 bs bl).1).1)
 rw [Z07,(Z8H hok).1,(Z3A e).2] at hw
 obtain ⟨-,hw⟩:=hw.split
 obtain ⟨-,hw⟩:=hw.split
 obtain ⟨-,hw⟩:=hw.split
 obtain ⟨-,hw⟩:=hw.split
 obtain ⟨-,hw⟩:=hw.split
 have l1:(varL bs.toNat).length = (Zx bs.toNat).size:=by rw [←Z1p,Ze]
 have l2:(varL bl.length).length = (Zx bl.length).size:=by rw [←Z1p,Ze]
 have l3:(varL (Z4 bs bl).1.size).length = (Zx (Z4 bs bl).1.size).size:=by rw [←Z1p,Ze]
 have l4:(bytesOf (four (sumOf (Z4 bs bl).1))).length = 4:=by rw [Ze,Z3r]
 rw [l1,l2,l3,l4,Ze,size_append] at hw
 have ea:(0:Int) + (T.size:Int) + ((Zx (Z4 bs bl).1.size).size:Int) + ((4:Nat):Int) + ((Zx bs.toNat).size:Int) + ((Zx bl.length).size:Int) = (T.size:Int) + ((frame (Z4 bs bl).1).1.size:Int) - ((Z4 bs bl).1.size:Int) + ((Zx bs.toNat).size:Int) + ((Zx bl.length).size:Int):=by omega
 rw [ea] at hw
 exact hw
theorem scan_more {rb:RBf} (hrb:∀ c,c.size≤9000→RB c (rb c)) {bs:Int} {bl:List S162} (h:(Z4 bs bl).2 = true) {T:ByteArray} (hT:fullT rb T) (hs:T.size + (frame (Z4 bs bl).1).1.size≤20000) (seg:Int):Z1K rb seg 0 (Z00 (T++(frame (Z4 bs bl).1).1)).1 ([],[],-1) = ((Z1K rb seg 0 (Z00 T).1 ([],[],-1)).1++Z27 seg ((T.size:Int) + ((frame (Z4 bs bl).1).1.size:Int) - ((Z4 bs bl).1.size:Int) + ((Zx bs.toNat).size:Int) + ((Zx bl.length).size:Int)) bl,(Z1K rb seg 0 (Z00 T).1 ([],[],-1)).2.1++[(Z4 bs bl).1],mx (Z1K rb seg 0 (Z00 T).1 ([],[],-1)).2.2 bs)∧fullT rb (T++(frame (Z4 bs bl).1).1):=by
 obtain ⟨e,hok⟩:=rb_bat hrb h
 obtain ⟨p1,p2,-⟩:=Z9b hT
 have hsum:=(Z4r T).1
 have hu:=unframe_snoc hT hok hs
 have hfs:frSum 0 (Z00 T).1 = (T.size:Int):=by omega
 constructor
 ·rw [hu]
  dsimp only
  rw [Zc9 rb seg _ (by rw [e]) _ 0 _ (fun x hx => (p1 x hx).1),hfs,e]
 ·unfold fullT
  rw [hu]
  dsimp only
  rw [Z7k rb _ 0 (fun c hc => ?_)]
  ·have:=(Z4r (T++(frame (Z4 bs bl).1).1)).1
   rw [hu] at this
   dsimp only at this
   rw [this,size_append]
  ·rcases List.mem_append.1 hc with hc | hc
   ·exact (p1 c hc).1
   ·obtain rfl:=List.mem_singleton.1 hc;rw [e]
theorem ZcM (rb:RBf):fullT rb ⟨#[]⟩:=by
 obtain ⟨h1,h2⟩:=Z4r ⟨#[]⟩
 have h3:=ZaH rb (Z00 ⟨#[]⟩).1 0
 obtain ⟨b1,b2⟩:=Z5q ⟨#[]⟩
 have:=b2.le
 have hz:((⟨#[]⟩:ByteArray).size:Int) = 0:=rfl
 have hl:=Z75 _ b1
 have he:(Z00 ⟨#[]⟩).1 = []:=List.length_eq_zero_iff.1 (by omega)
 unfold fullT
 rw [he];rfl
theorem putRaws_ok {d:List S122} (hd:ZT d = true) (l:List S119):ZT (ZF d l).1 = true∨(ZF d l).1 = []:=by
 unfold ZF
 split
 ·exact .inl (Z3X l d 0 hd).1
 ·exact .inr rfl
structure Added (rb:RBf) (rm:RMf) (d d':List S122) (s0:List Int) (b:Int) (bs:Int) (bl:List S162) (s1:List Int) (z:Int) (T:ByteArray):Prop where
 same:∀ n∈s0,n = z∨Zn (segT n) d' = Zn (segT n) d
 text:Zn (segT z) d' = T++(frame (Z4 bs bl).1).1
 full:fullT rb T
 size:T.size + (frame (Z4 bs bl).1).1.size≤20000
 segs:(∃ init,s0 = init++[z]∧s1 = s0∧z ∉ init∧T = Zn (segT z) d)∨(s1 = s0++[z]∧z ∉ s0∧T = ⟨#[]⟩)
theorem segScan_same {rb:RBf} {d d':List S122} {n:Int} (h:Zn (segT n) d' = Zn (segT n) d):Z0Z rb d' n = Z0Z rb d n:=by unfold Z0Z;rw [h]
theorem Z3q {rb:RBf} {d d':List S122}:∀ (l:List Int),(∀ n∈l,Zn (segT n) d' = Zn (segT n) d)→Z15 rb d' l = Z15 rb d l∧∀ st,Z1A rb d' st l = Z1A rb d st l
 | [],_ => ⟨rfl,fun _ => rfl⟩
 | n::t,h => by
  obtain ⟨i1,i2⟩:=Z3q t (fun y hy => h y (List.mem_cons_of_mem _ hy))
  have e:=segScan_same (rb:=rb) (h n List.mem_cons_self)
  refine ⟨?_,fun st => ?_⟩
  ·unfold Z15 at i1 ⊢
   rw [List.flatMap_cons,List.flatMap_cons,i1,e]
  ·unfold Z1A at i2 ⊢
   rw [List.foldl_cons,List.foldl_cons,e,i2]
def offOf (T:ByteArray) (bs:Int) (bl:List S162):Int:=(T.size:Int) + ((frame (Z4 bs bl).1).1.size:Int) - ((Z4 bs bl).1.size:Int) + ((Zx bs.toNat).size:Int) + ((Zx bl.length).size:Int)
theorem mx_assoc (a b c:Int):mx a (mx b c) = mx (mx a b) c:=by unfold mx;(repeat' split) <;> omega
theorem mx_neg {s:Int} (h:0≤s):mx s (-1) = s:=by unfold mx;rw [if_neg (by omega)]
theorem added_spots {rb:RBf} (hrb:∀ c,c.size≤9000→RB c (rb c)) {rm:RMf} {d d':List S122} {s0:List Int} {b bs:Int} {bl:List S162} {s1:List Int} {z:Int} {T:ByteArray} (h:Added rb rm d d' s0 b bs bl s1 z T) (hk:(Z4 bs bl).2 = true) :
  Z15 rb d' s1 = Z15 rb d s0++Z27 z (offOf T bs bl) bl∧∀ st,0≤st→Z1A rb d' st s1 = mx (Z1A rb d st s0) bs:=by
 obtain ⟨e1,e2⟩:=scan_more hrb hk h.full h.size z
 have ez:Z0Z rb d' z = ((Z1K rb z 0 (Z00 T).1 ([],[],-1)).1++Z27 z (offOf T bs bl) bl,(Z1K rb z 0 (Z00 T).1 ([],[],-1)).2.1++[(Z4 bs bl).1],mx (Z1K rb z 0 (Z00 T).1 ([],[],-1)).2.2 bs):=by
  unfold Z0Z
  rw [h.text]
  exact e1
 rcases h.segs with ⟨init,rfl,rfl,hz,hT⟩ | ⟨rfl,hz,hT⟩
 ·obtain ⟨i1,i2⟩:=Z3q (rb:=rb) init (fun n hn => (h.same n (List.mem_append_left _ hn)).resolve_left (fun e => hz (e ▸ hn)))
  have eo:Z0Z rb d z = Z1K rb z 0 (Z00 T).1 ([],[],-1):=by unfold Z0Z;rw [hT]
  refine ⟨?_,fun st _ => ?_⟩
  ·unfold Z15 at i1 ⊢
   rw [List.flatMap_append,List.flatMap_append,i1,List.flatMap_singleton,List.flatMap_singleton,ez,eo,List.append_assoc]
  ·have i2:=i2 st
   unfold Z1A at i2 ⊢
   rw [List.foldl_append,List.foldl_append,i2,List.foldl_cons,List.foldl_nil,List.foldl_cons,List.foldl_nil,ez,eo]
   exact mx_assoc _ _ _
 ·obtain ⟨i1,i2⟩:=Z3q (rb:=rb) s0 (fun n hn => (h.same n hn).resolve_left (fun e => hz (e ▸ hn)))
  have hE:(Z00 T).1 = []:=by
   rw [hT]
   obtain ⟨b1,b2⟩:=Z5q ⟨#[]⟩
   have:=b2.le
   have hz:((⟨#[]⟩:ByteArray).size:Int) = 0:=rfl
   have hl:=Z75 _ b1
   exact List.length_eq_zero_iff.1 (by omega)
  rw [hE] at ez
  simp only [Z1K,List.nil_append] at ez
  refine ⟨?_,fun st hst => ?_⟩
  ·unfold Z15 at i1 ⊢
   rw [List.flatMap_append,i1,List.flatMap_singleton,ez]
  ·have hm:∀ (l:List Int) (s:Int),0≤s→0≤Z1A rb d s l:=by
    intro l
    induction l with
    | nil => intro s hs;exact hs
    | cons n t ih =>
     intro s hs
     unfold Z1A at ih ⊢
     rw [List.foldl_cons]
     exact ih _ (by unfold mx;split <;> omega)
   have h0:=hm s0 st hst
   have i2:=i2 st
   unfold Z1A at i2 h0 ⊢
   rw [List.foldl_append,i2,List.foldl_cons,List.foldl_nil,ez]
   dsimp only
   rw [mx_assoc,mx_neg h0]
theorem Z5Y {d d':List S122} {x:S145} {w:ByteArray} (h:Zn (segT x.f1) d' = Zn (segT x.f1) d++w) (hx:x.f2 + x.f3≤((Zn (segT x.f1) d).size:Int)):Z1e d' x = Z1e d x:=by
 unfold Z1e
 rw [h]
 have:(Zn (segT x.f1) d++w).extract x.f2.toNat (x.f2 + x.f3).toNat = (Zn (segT x.f1) d).extract x.f2.toNat (x.f2 + x.f3).toNat:=by
  apply Z0N
  rw [Z0M,Z0M,Z07,List.take_append_of_le_length (by rw [Ze];omega)]
 rw [this]
theorem added_pairs {rb:RBf} {rm:RMf} {d d':List S122} {s0:List Int} {b bs:Int} {bl:List S162} {s1:List Int} {z:Int} {T:ByteArray} (h:Added rb rm d d' s0 b bs bl s1 z T) {x:S145} (hx:x.f1∈s0) (hl:x.f2 + x.f3≤((Zn (segT x.f1) d).size:Int)):Z1e d' x = Z1e d x:=by
 rcases h.same x.f1 hx with e | e
 ·rcases h.segs with ⟨init,-,-,-,hT⟩ | ⟨-,hz,-⟩
  ·refine Z5Y (w:=(frame (Z4 bs bl).1).1) ?_ hl
   rw [e,h.text,hT]
  ·exact absurd (e ▸ hx) hz
 ·refine Z5Y (w:=⟨#[]⟩) ?_ hl
  rw [e]
  exact Z0N (by rw [Z07];simp [bytesOf])
theorem notm {a:Int} (ha:0≤a∧a≤999):(⟨#[109]⟩:ByteArray)≠segT a∧(⟨#[109,43]⟩:ByteArray)≠segT a:=⟨fun h => (Zab ha).1 h.symm,fun h => (Zab ha).2 h.symm⟩
theorem mm:(⟨#[109]⟩:ByteArray)≠⟨#[109,43]⟩:=fun h => by have:=congrArg ByteArray.size h;exact absurd this (by decide)
theorem add_added {rb:RBf} (hrb:∀ c,c.size≤9000→RB c (rb c)) {rm:RMf} (hrm:∀ s,s.size≤1000000→RM s (rm s)) {d:List S122} {s0:List Int} {a b c:Int} {s4:List Int} {dir:List S145} {st:Int} (h:ZL rb rm d = (s0,a,b,c,s4,dir,st,[],0)) {bs:Int} {bl:List S162} (hk:(Z4 bs bl).2 = true)
  (hp:(ZF d (ZZ d s0 a b c s4 (frame (Z4 bs bl).1).1)).2 = ((ZZ d s0 a b c s4 (frame (Z4 bs bl).1).1).length:Int)) :
  ∃ s1 a1 z T,Added rb rm d (ZF d (ZZ d s0 a b c s4 (frame (Z4 bs bl).1).1)).1 s0 b bs bl s1 z T∧manAt rm (ZF d (ZZ d s0 a b c s4 (frame (Z4 bs bl).1).1)).1 = (s1,a1,b,c,s4,true)∧0≤z∧z≤999:=by
 obtain ⟨g1,g2,g3,g4,g5,g6,g7,g8,g9,g10,g11⟩:=Z2j hrm h
 obtain ⟨hdl,hup⟩:=Z0z g1
 obtain ⟨b1,b2,-,-,b5,b6,-⟩:=ZY g2
 obtain ⟨sp,sn⟩:=Z9f g2
 obtain ⟨init,z,hz⟩:∃ init z,s0 = init++[z]:=by
  rcases List.eq_nil_or_concat s0 with rfl | ⟨i,z,e⟩
  ·simp at b1
  ·exact ⟨i,z,by rw [e];simp⟩
 have hzi:z∈s0:=by rw [hz];simp
 have hlast:Z2Q s0 = z:=by rw [hz,Z4z]
 obtain ⟨f,hf⟩:∃ f,f = (frame (Z4 bs bl).1).1:=⟨_,rfl⟩
 rw [←hf] at hp ⊢
 have hl:=(Z3M d s0 a b c s4 (Z4 bs bl).1).1
 rw [←hf] at hl
 obtain ⟨q1,q2⟩:=Zac g1 (by omega) hp
 have hok:=putRaws_ok g1 (ZZ d s0 a b c s4 f)
 unfold ZZ at hp q1 q2 hok ⊢
 by_cases hc:((Zn (segT (Z2Q s0)) d).size:Int)≥500∧s0.length < 8∧a≤999
 ·rw [if_pos hc] at q1 q2 hok ⊢
  have ha:0≤a∧a≤999:=⟨b2.1,hc.2.2⟩
  obtain ⟨man,hman⟩:∃ man,man = (Z0R (s0++[a]) (a + 1) b c s4).1:=⟨_,rfl⟩
  rw [←hman] at q1 hok ⊢
  have e1:∀ d1:List S122,Z0q d1 ⟨1,segT a,⟨#[]⟩,f⟩ = putF (segT a) f d1:=fun _ => rfl
  have e2:∀ d1:List S122,Z0q d1 ⟨1,⟨#[109,43]⟩,⟨#[]⟩,man⟩ = putF ⟨#[109,43]⟩ man d1:=fun _ => rfl
  have e3:∀ d1:List S122,Z0q d1 ⟨3,⟨#[109,43]⟩,⟨#[109]⟩,⟨#[]⟩⟩ = putF ⟨#[109]⟩ (Zn ⟨#[109,43]⟩ d1) (dropF ⟨#[109,43]⟩ d1):=fun d1 => by
   unfold Z0q
   rw [if_neg (by decide),if_neg (by decide),if_pos rfl,if_neg mm]
  simp only [List.foldl_cons,List.foldl_nil] at q1
  rw [e1,e2,e3] at q1
  have u1:=Zb8 (name:=segT a) (text:=f) hup
  have u2:=Zb8 (name:=⟨#[109,43]⟩) (text:=man) u1
  have u3:=ZaJ ⟨#[109,43]⟩ u2
  have tm:Zn ⟨#[109,43]⟩ (putF ⟨#[109,43]⟩ man (putF (segT a) f d)) = man:=by rw [Z2B u1,if_pos rfl]
  rw [tm] at q1
  have tx:∀ key:ByteArray,key≠⟨#[109]⟩→key≠⟨#[109,43]⟩→Zn key (ZF d [⟨1,segT a,⟨#[]⟩,f⟩,⟨1,⟨#[109,43]⟩,⟨#[]⟩,man⟩,⟨3,⟨#[109,43]⟩,⟨#[109]⟩,⟨#[]⟩⟩]).1 = if key = segT a then f else Zn key d:=fun key k1 k2 => by
   rw [q1,Z2B u3,if_neg k1,dropF_text u2 k2,Z2B u1,if_neg k2,Z2B hup]
  have hnot:a ∉ s0:=fun e => by have:=sn a e;omega
  have hfa:Zn (segT a) (ZF d [⟨1,segT a,⟨#[]⟩,f⟩,⟨1,⟨#[109,43]⟩,⟨#[]⟩,man⟩,⟨3,⟨#[109,43]⟩,⟨#[109]⟩,⟨#[]⟩⟩]).1 = f:=by rw [tx _ (Zab ha).1 (Zab ha).2,if_pos rfl]
  have hnext:=ZcR g2 hc.2.1 hc.2.2
  have hz8:=Z4g (Z4 bs bl).1
  refine ⟨s0++[a],a + 1,a,⟨#[]⟩,⟨fun n hn => ?_,?_,ZcM rb,?_,.inr ⟨rfl,hnot,rfl⟩⟩,?_,ha.1,ha.2⟩
  ·refine .inr ?_
   have hn9:=b6 n hn
   rw [tx _ (Zab hn9).1 (Zab hn9).2,if_neg (fun e => hnot ((Z94 hn9 ha e) ▸ hn))]
  ·rw [hfa,←hf]
   exact Z0N (by rw [Z07];simp [bytesOf])
  ·show 0 + _≤_;omega
  ·unfold manAt
   rw [q1,Z2B u3,if_pos rfl,hman]
   exact rm_man hrm (Z9m hnext)
 ·rw [if_neg hc] at q1 q2 hok ⊢
  rw [hlast] at q1 q2 hok ⊢
  have hz9:=b6 z hzi
  have e1:Z0q d ⟨2,segT z,⟨#[]⟩,f⟩ = putF (segT z) (Zn (segT z) d++f) d:=rfl
  simp only [List.foldl_cons,List.foldl_nil] at q1
  rw [e1] at q1
  have hm:=notm hz9
  have hzT:Zn (segT z) (putF (segT z) (Zn (segT z) d++f) d) = Zn (segT z) d++f:=by rw [Z2B hup,if_pos rfl]
  have hni:z ∉ init:=fun e => by
   rw [hz,List.pairwise_append] at sp
   have:=sp.2.2 z e z (by simp)
   omega
  have hdk:ZT (putF (segT z) (Zn (segT z) d++f) d) = true:=by
   rw [q1] at hok
   rcases hok with hok | hok
   ·exact hok
   ·exfalso
    have:(⟨segT z,Zn (segT z) d++f⟩:S122)∈putF (segT z) (Zn (segT z) d++f) d:=Z3W.2 (.inr rfl)
    rw [hok] at this;cases this
  have hsz:=Z3b hdk (segT z)
  rw [hzT,size_append,hf] at hsz
  refine ⟨s0,a,z,Zn (segT z) d,⟨fun n hn => ?_,by rw [q1,hzT,hf],g8 z hzi,hsz,.inl ⟨init,hz,rfl,hni,rfl⟩⟩,?_,hz9.1,hz9.2⟩
  ·by_cases e:n = z
   ·exact .inl e
   ·refine .inr ?_
    rw [q1,Z2B hup,if_neg (fun k => e (Z94 (b6 n hn) hz9 k))]
  ·unfold manAt at g4 ⊢
   rw [q1,Z2B hup,if_neg hm.1]
   exact g4
theorem dir_in {rb:RBf} (hrb:∀ c,c.size≤9000→RB c (rb c)) {d:List S122} {s0:List Int}:∀ x∈(Z15 rb d s0).foldl layS [],x.f1∈s0∧0≤x.f2∧0≤x.f3∧x.f2 + x.f3≤((Zn (segT x.f1) d).size:Int):=fun x hx => by
 rcases lay_mem _ [] x hx with hx | ⟨hx,hn⟩
 ·cases hx
 unfold Z15 at hx
 obtain ⟨n,hn',hx⟩:=List.mem_flatMap.1 hx
 obtain ⟨h1,h2⟩:=ZcN hrb d n x hx
 rw [h1]
 rcases h2 with h2 | ⟨h2,h3,h4⟩
 ·exact absurd h2 hn
 ·exact ⟨hn',h2,h3,h4⟩
theorem mapDo_make {l:List S147} (hl:l.length≤1048576) {bs:Int} {bl:List S162} (h1:mapOk l = true) (h2:Z2D bs bl = true) {r:List S147×Bool} (h:Ev (fun k => Z04.l0 k l 0 bs bl) r):Ev (fun k => Z04.f k l bs bl) r:=by
 have hb:=(Z0V h2).2.1
 unfold Z04.f
 refine Ev.bind (Ev.eq (Z5X l hl) h1) (Ev.pos rfl (Ev.bind (Ev.eq (Z6F bs bl (by omega)) h2) (Ev.step (fun _ => rfl) ?_)))
 simp only [Z04.j0]
 exact Ev.neg (by simp) (Ev.call rfl (Ev.pos (by simp;omega) h))
theorem add_map {rb:RBf} (hrb:∀ c,c.size≤9000→RB c (rb c)) {rm:RMf} (hrm:∀ s,s.size≤1000000→RM s (rm s)) {d:List S122} {s0:List Int} {a b c:Int} {s4:List Int} {dir:List S145} {st:Int} (h:ZL rb rm d = (s0,a,b,c,s4,dir,st,[],0)) {bs:Int} {bl:List S162} (hk:(Z4 bs bl).2 = true)
  (hp:(ZF d (ZZ d s0 a b c s4 (frame (Z4 bs bl).1).1)).2 = ((ZZ d s0 a b c s4 (frame (Z4 bs bl).1).1).length:Int)) {t0:List Int} {t1 t2 t3:Int} {t4:List Int} {dir':List S145} {st':Int}
  (h':ZL rb rm (ZF d (ZZ d s0 a b c s4 (frame (Z4 bs bl).1).1)).1 = (t0,t1,t2,t3,t4,dir',st',[],0)) :
  st' = mx st bs∧t2 = b∧Ev (fun k => Z04.f k (dir.map (Z1e d)) bs bl) (dir'.map (Z1e (ZF d (ZZ d s0 a b c s4 (frame (Z4 bs bl).1).1)).1),true):=by
 obtain ⟨s1,a1,z,T,hA,hm,-,-⟩:=add_added hrb hrm h hk hp
 generalize (ZF d (ZZ d s0 a b c s4 (frame (Z4 bs bl).1).1)).1 = d' at h' hA hm ⊢
 obtain ⟨g1,g2,g3,g4,g5,g6,g7,g8,g9,g10,g11⟩:=Z2j hrm h
 obtain ⟨k1,k2,k3,k4,k5,k6,k7,k8,k9,k10,k11⟩:=Z2j hrm h'
 rw [hm] at k4
 simp only [Prod.mk.injEq] at k4
 obtain ⟨rfl,rfl,rfl,rfl,rfl,-⟩:=k4
 obtain ⟨j1,j2⟩:=added_spots hrb hA hk
 have hb0:=(ZY g2).2.2.1
 have hbatch:Z2D bs bl = true:=(Z3A (s:=(Z4 bs bl).1) (Prod.ext rfl hk)).1
 obtain ⟨c1,c2,c3⟩:=Z0V hbatch
 have hdl:=Z66 g9
 refine ⟨by rw [k11,j2 _ hb0.1,g11],rfl,?_⟩
 have ed:dir' = (Z27 z (offOf T bs bl) bl).foldl layS dir:=by
  rw [k10,j1,List.foldl_append,←g10]
 have hsame:dir.map (Z1e d') = dir.map (Z1e d):=by
  refine List.map_congr_left fun x hx => ?_
  have hx':x∈(Z15 rb d s0).foldl layS []:=by rw [←g10];exact hx
  obtain ⟨x1,-,-,x4⟩:=dir_in hrb x hx'
  exact added_pairs hA x1 x4
 have hup:Z46 dir:=(ZdP (by rw [dirOk,Bool.and_eq_true] at g9;exact g9.2)).1
 have hat:=changes_at hk T
 rw [←hA.text] at hat
 have hloop:=Zce d' z bs trivial bl c2 (fun x hx => (c3 x hx).2) bl 0 _ _ dir rfl hat hup (by omega)
 rw [hsame] at hloop
 refine mapDo_make (by rw [List.length_map];omega) (Z7v g9) hbatch (Ev.eq hloop ?_)
 have ed':(Z27 z ((T.size:Int) + ((frame (Z4 bs bl).1).1.size:Int) - ((Z4 bs bl).1.size:Int) + ((Zx bs.toNat).size:Int) + ((Zx bl.length).size:Int)) bl).foldl layS dir = dir':=ed.symm
 rw [ed',mapDone,if_pos (Z7v k9)]
theorem manText_le {segs:List Int} {nx ba bt:Int} {cf:List Int} (h:manOk segs nx ba bt cf = true):(Z0R segs nx ba bt cf).1.size≤100:=by
 obtain ⟨b1,b2,b3,b4,b5,b6,b7⟩:=ZY h
 have hf:∀ (l:List Int),(∀ x∈l,0≤x∧x≤1000000)→(l.flatMap fun n => varL n.toNat).length≤5 * l.length:=by
  intro l hl
  induction l with
  | nil => simp
  | cons x t ih =>
   have hx:=hl x List.mem_cons_self
   have:=Z2d (show x.toNat≤34359738367 by omega)
   have:=ih (fun y hy => hl y (List.mem_cons_of_mem _ hy))
   rw [List.flatMap_cons,List.length_append,List.length_cons]
   omega
 have hn:(Z1V segs nx ba bt cf).length = segs.length + cf.length + 5:=by simp only [Z1V,List.length_cons,List.length_append];omega
 have hf:=hf (Z1V segs nx ba bt cf) (fun x hx => by
  simp only [Z1V,List.mem_cons,List.mem_append] at hx
  rcases hx with rfl | hx | rfl | rfl | rfl | rfl | hx
  ·omega
  ·have:=b6 x hx;omega
  ·omega
  ·omega
  ·omega
  ·omega
  ·have:=b7 x hx;omega)
 unfold Z0R
 rw [if_pos h]
 unfold sealT
 rw [if_neg (by rw [strOfNums_size];omega)]
 dsimp only
 rw [size_append,strOfNums_size,Z3r]
 omega
theorem segT_toList {a:Int} (ha:0≤a∧a≤999):∃ t,(segT a).toList = 103::t:=by
 rw [show a = ((a.toNat:Nat):Int) by omega,Z8I (by omega),ByteArray.toList_eq,ByteArray.data_append]
 exact ⟨(digT a.toNat).data.toList,by simp⟩
theorem segT_less_m {a:Int} (ha:0≤a∧a≤999):lessK (segT a) ⟨#[109]⟩ = true:=by
 obtain ⟨t,ht⟩:=segT_toList ha
 unfold lessK
 rw [ht,ByteArray.toList_eq]
 rfl
theorem unframe_none:(Z00 ⟨#[]⟩).1 = []:=by
 obtain ⟨b1,b2⟩:=Z5q ⟨#[]⟩
 have:=b2.le
 have hz:((⟨#[]⟩:ByteArray).size:Int) = 0:=rfl
 have hl:=Z75 _ b1
 exact List.length_eq_zero_iff.1 (by omega)
theorem segNo_m (x:ByteArray) (h:∀ n:Int,0≤n∧n≤999→x≠segT n):segNo x = -1:=by
 rcases Z4x x with ⟨n,h1,h2,-⟩ | ⟨h1,-⟩
 ·exact absurd h2 (h n (by omega))
 ·exact h1
theorem format_clean (rb:RBf) {rm:RMf} (hrm:∀ s,s.size≤1000000→RM s (rm s)) {cf:List Int} (h:Z4o cf = true):(Z3y cf).2 = true∧ZL rb rm (Z3y cf).1 = ([0],1,0,0,cf,[],0,[],0):=by
 have hk:manOk [0] 1 0 0 cf = true:=by unfold manOk;rw [h];rfl
 have hok:=Z9m hk
 have hle:=manText_le hk
 have hrmm:=rm_man hrm hok
 unfold Z3y
 rw [if_pos hok]
 refine ⟨rfl,?_⟩
 dsimp only
 generalize (Z0R [0] 1 0 0 cf).1 = man at hle hrmm
 have h0:(0:Int)≤0∧(0:Int)≤999:=by omega
 have hs0:(segT 0).size≤12∧1≤(segT 0).size:=by
  have:=Zbl (n:=0) (by omega)
  have h3:=Z5K (n:=0) (by omega)
  have e:segT 0 = segT ((0:Nat):Int):=rfl
  rw [e];omega
 have hl:=segT_less_m h0
 have hd:ZT ([⟨segT 0,⟨#[]⟩⟩,⟨⟨#[109]⟩,man⟩]:List S122) = true:=by
  unfold lessK at hl
  unfold ZT Z2o Z2o Z2o Z5t
  dsimp only
  rw [hl,Zr.2 (by omega),decide_eq_true (show man.size≤20000 by omega)]
  rfl
 obtain ⟨d,hdd⟩:∃ d:List S122,d = [⟨segT 0,⟨#[]⟩⟩,⟨⟨#[109]⟩,man⟩]:=⟨_,rfl⟩
 rw [←hdd] at hd ⊢
 have hu:=(Z0z hd).2
 have m0:(⟨segT 0,⟨#[]⟩⟩:S122)∈d:=by rw [hdd];simp
 have m1:(⟨⟨#[109]⟩,man⟩:S122)∈d:=by rw [hdd];simp
 have t0:=Z1P hu m0
 have t1:=Z1P hu m1
 dsimp only at t0 t1
 have hmem:∀ x∈d,x.f0 = segT 0∨x.f0 = ⟨#[109]⟩:=fun x hx => by
  rw [hdd] at hx
  simp only [List.mem_cons,List.not_mem_nil,or_false] at hx
  rcases hx with rfl | rfl
  ·exact .inl rfl
  ·exact .inr rfl
 have hsp:Z0Z rb d 0 = ([],[],-1):=by unfold Z0Z;rw [t0.2,unframe_none];rfl
 have e1:Z15 rb d [0] = []:=by unfold Z15;rw [List.flatMap_singleton,hsp]
 have e2:Z1A rb d 0 [0] = 0:=by unfold Z1A;rw [List.foldl_cons,List.foldl_nil,hsp];exact mx_neg (by omega)
 have hc:=Z9h (rb:=rb) (rm:=rm) (d:=d) (s0:=[0]) (a:=1) (b:=0) (c:=0) (s4:=cf) hd t1.1 (by unfold manAt;rw [t1.2];exact hrmm) (by simp) (fun n hn => by obtain rfl:=List.mem_singleton.1 hn;exact t0.1) ?_ ?_ (fun n hn => by obtain rfl:=List.mem_singleton.1 hn;rw [t0.2];exact ZcM rb) (by rw [e1];rfl)
 ·rw [e1,e2] at hc
  exact hc
 ·unfold Z3t
  rw [if_neg]
  intro hn
  obtain ⟨x,hx,e⟩:=Z4m hn
  rcases hmem x hx with k | k
  ·exact (notm h0).2 (e.symm.trans k)
  ·exact mm (k.symm.trans e)
 ·unfold Z2a
  rw [List.filter_eq_nil_iff.2,List.map_nil]
  intro x hx
  unfold dropB
  rcases hmem x hx with k | k
  ·rw [k,show segT 0 = segT ((0:Nat):Int) from rfl,segNo_yes (by omega)];simp
  ·rw [k,segNo_m _ (fun n hn => (notm hn).1)];simp
def NextOf (rb:RBf) (rm:RMf) (d:List S122) (r:Aft):Prop:=r.2.2.2.2.2.2.2.2 = true→r.2.2.2.2.2.2.2.1.length≤60∧(∀ x∈r.2.2.2.2.2.2.2.1,x.f3.size≤1000000000)∧(ZF d r.2.2.2.2.2.2.2.1).2 = (r.2.2.2.2.2.2.2.1.length:Int)∧ZL rb rm (ZF d r.2.2.2.2.2.2.2.1).1 = (r.1,r.2.1,r.2.2.1,r.2.2.2.1,r.2.2.2.2.1,r.2.2.2.2.2.1,r.2.2.2.2.2.2.1,[],0)
theorem next_of {rb:RBf} {rm:RMf} {d:List S122} {l:List S119} (hl:l.length≤60) (h3:∀ x∈l,x.f3.size≤1000000000):NextOf rb rm d (Z3E rb rm d l):=fun hk => by
 obtain ⟨h1,h2,h4⟩:=after_eq rfl hk
 rw [h2]
 exact ⟨hl,h3,h1,h4⟩
theorem add_next (rb:RBf) (rm:RMf) (d:List S122) (s0:List Int) (a b c:Int) (s4:List Int) (dir:List S145) (st bs:Int) (bl:List S162):NextOf rb rm d (addOf rb rm d s0 a b c s4 dir st bs bl):=by
 unfold addOf
 split
 ·obtain ⟨m1,m2⟩:=Z3M d s0 a b c s4 (Z4 bs bl).1
  exact next_of (by omega) m2
 ·exact fun h => by cases h
theorem merge_next (rb:RBf) {rm:RMf} (hrm:∀ s,s.size≤1000000→RM s (rm s)) (d:List S122) (s0:List Int) (a b c:Int) (s4:List Int) (dir:List S145) (st base term:Int) (conf:List Int):NextOf rb rm d (Z9z rb rm d s0 a b c s4 dir st base term conf):=by
 unfold Z9z
 split
 ·rename_i h
  obtain ⟨-,g2,-⟩:=Z5k hrm h.1
  have:=(ZY g2).1
  unfold ZaG
  split
  ·obtain ⟨m1,m2⟩:=Z6d s0 (by omega) a _ (frame_le (Z4 st ((dir.map (Z1e d)).map chOf)).1) base term conf
   exact next_of (by omega) m2
  ·exact fun h => by cases h
 ·exact fun h => by cases h
def Gd (rb:RBf) (rm:RMf) (d:List S122) (s0:List Int) (a b c:Int) (s4:List Int) (dir:List S145) (st:Int):Prop:=ZL rb rm d = (s0,a,b,c,s4,dir,st,[],0)
theorem Gd.small {rb:RBf} {rm:RMf} (hrm:∀ s,s.size≤1000000→RM s (rm s)) {d:List S122} {s0:List Int} {a b c:Int} {s4:List Int} {dir:List S145} {st:Int} (h:Gd rb rm d s0 a b c s4 dir st):d.length≤30∧s0.length≤8∧s4.length≤4∧dir.length≤60:=by
 obtain ⟨g1,g2,-,-,-,-,-,-,g9,-,-⟩:=Z2j hrm h
 obtain ⟨b1,-,-,-,b5,-,-⟩:=ZY g2
 exact ⟨(Z0z g1).1,b1.2,b5.2,Z66 g9⟩
def Grown (rb:RBf) (rm:RMf) (l:List Int) (r:List S122×List Int×Int×Int×Int×List Int×List S145×Int×List Int×Int×Int):Prop:=Gd rb rm r.1 r.2.1 r.2.2.1 r.2.2.2.1 r.2.2.2.2.1 r.2.2.2.2.2.1 r.2.2.2.2.2.2.1 r.2.2.2.2.2.2.2.1∧Cu l r.2.2.2.2.2.2.2.2.1 r.2.2.2.2.2.2.2.2.2.1
theorem Z8x {rb:RBf} (hrb:∀ c,c.size≤9000→RB c (rb c)) {rm:RMf} (hrm:∀ s,s.size≤1000000→RM s (rm s)) {l:List Int} (hl:l.length≤140737488351232) (N:Int) (hN:N≤1000):∀ (m n:Nat) (x11:Int) (d:List S122) (s0:List Int) (a b c:Int) (s4:List Int) (dir:List S145) (st:Int) (s:List Int) (i y:Int),N.toNat - n≤m→n≤1000→Gd rb rm d s0 a b c s4 dir st→Cu l s i →
  To (fun k => Zo.l0 k N x11 (n:Int) [] [] 0 0 0 [] [] 0 d s0 a b c s4 dir st s i y) (Grown rb rm l):=by
 intro m
 induction m with
 | zero =>
  intro n x11 d s0 a b c s4 dir st s i y h1 h2 hg hc
  refine To.step (fun _ => rfl) ?_
  simp only [Zo.l0]
  exact To.neg (by omega) (To.now ⟨hg,hc⟩)
 | succ m ih =>
  intro n x11 d s0 a b c s4 dir st s i y h1 h2 hg hc
  have tail:∀ (x11:Int) (d:List S122) (s0:List Int) (a b c:Int) (s4:List Int) (dir:List S145) (st:Int) (s:List Int) (i y:Int),n < 1000→N.toNat - (n + 1)≤m→Gd rb rm d s0 a b c s4 dir st→Cu l s i →
    To (fun k => (Z0I.f s i y 7).bind fun t9 => (if t9.1 = true then ((Zp.f k d s0 a b c s4 dir st st 1 s4).bind fun t10 => (if t10.2.2.2.2.2.2.2.2 = true then ((Zg.f k d t10.2.2.2.2.2.2.2.1).bind fun t11 => (Zo.l0 k N x11 (((n + 1:Nat):Int)) [] [] 0 0 0 [] [] 0 t11.1 t10.1 t10.2.1 t10.2.2.1 t10.2.2.2.1 t10.2.2.2.2.1 t10.2.2.2.2.2.1 t10.2.2.2.2.2.2.1 t9.2.1 t9.2.2.1 t9.2.2.2)) else (Zo.l0 k N x11 (((n + 1:Nat):Int)) [] [] 0 0 0 [] [] 0 d s0 a b c s4 dir st t9.2.1 t9.2.2.1 t9.2.2.2))) else (Zo.l0 k N x11 (((n + 1:Nat):Int)) [] [] 0 0 0 [] [] 0 d s0 a b c s4 dir st t9.2.1 t9.2.2.1 t9.2.2.2))) (Grown rb rm l):=by
   intro x11 d s0 a b c s4 dir st s i y hn hm hg hc
   obtain ⟨w1,w2,w3,w4⟩:=hg.small hrm
   refine To.bind (Z4f hl y hc 7) (fun t9 p9 => To.ite (fun _ => ?_) (fun _ => ih (n + 1) _ _ _ _ _ _ _ _ _ _ _ _ hm (by omega) hg p9))
   have hmg:=merge_next rb hrm d s0 a b c s4 dir st st 1 s4
   refine To.bind (P:=fun z => z = Z9z rb rm d s0 a b c s4 dir st st 1 s4) (To.ev (Z8n rb hrb rm hrm d (by omega) s0 a b c s4 dir st st 1 s4 (by omega) (by omega) (by omega) (by omega)) rfl) (fun t10 e10 => ?_)
   subst e10
   refine To.ite (fun hk => ?_) (fun _ => ih (n + 1) _ _ _ _ _ _ _ _ _ _ _ _ hm (by omega) hg p9)
   obtain ⟨r1,r2,r3,r4⟩:=hmg hk
   refine To.bind (P:=fun z => z = ZF d (Z9z rb rm d s0 a b c s4 dir st st 1 s4).2.2.2.2.2.2.2.1) (To.ev (Z2T d (by omega) _ (by omega) r2) rfl) (fun t11 e11 => ?_)
   subst e11
   exact ih (n + 1) _ _ _ _ _ _ _ _ _ _ _ _ hm (by omega) r4 p9
  obtain ⟨w1,w2,w3,w4⟩:=hg.small hrm
  have goOn:∀ (x11:Int) (bs:Int) (bl:List S162) (s:List Int) (i y:Int),bl.length≤1000→n < 1000→N.toNat - (n + 1)≤m→Cu l s i →
    To (fun k => (Zb.f k d s0 a b c s4 dir st bs bl).bind fun t7 => (if t7.2.2.2.2.2.2.2.2 = true then ((Zg.f k d t7.2.2.2.2.2.2.2.1).bind fun t8 => ((Z0I.f s i y 7).bind fun t9 => (if t9.1 = true then ((Zp.f k t8.1 t7.1 t7.2.1 t7.2.2.1 t7.2.2.2.1 t7.2.2.2.2.1 t7.2.2.2.2.2.1 t7.2.2.2.2.2.2.1 t7.2.2.2.2.2.2.1 1 t7.2.2.2.2.1).bind fun t10 => (if t10.2.2.2.2.2.2.2.2 = true then ((Zg.f k t8.1 t10.2.2.2.2.2.2.2.1).bind fun t11 => (Zo.l0 k N x11 (((n + 1:Nat):Int)) [] [] 0 0 0 [] [] 0 t11.1 t10.1 t10.2.1 t10.2.2.1 t10.2.2.2.1 t10.2.2.2.2.1 t10.2.2.2.2.2.1 t10.2.2.2.2.2.2.1 t9.2.1 t9.2.2.1 t9.2.2.2)) else (Zo.l0 k N x11 (((n + 1:Nat):Int)) [] [] 0 0 0 [] [] 0 t8.1 t7.1 t7.2.1 t7.2.2.1 t7.2.2.2.1 t7.2.2.2.2.1 t7.2.2.2.2.2.1 t7.2.2.2.2.2.2.1 t9.2.1 t9.2.2.1 t9.2.2.2))) else (Zo.l0 k N x11 (((n + 1:Nat):Int)) [] [] 0 0 0 [] [] 0 t8.1 t7.1 t7.2.1 t7.2.2.1 t7.2.2.2.1 t7.2.2.2.2.1 t7.2.2.2.2.2.1 t7.2.2.2.2.2.2.1 t9.2.1 t9.2.2.1 t9.2.2.2)))) else ((Z0I.f s i y 7).bind fun t9 => (if t9.1 = true then ((Zp.f k d s0 a b c s4 dir st st 1 s4).bind fun t10 => (if t10.2.2.2.2.2.2.2.2 = true then ((Zg.f k d t10.2.2.2.2.2.2.2.1).bind fun t11 => (Zo.l0 k N x11 (((n + 1:Nat):Int)) [] [] 0 0 0 [] [] 0 t11.1 t10.1 t10.2.1 t10.2.2.1 t10.2.2.2.1 t10.2.2.2.2.1 t10.2.2.2.2.2.1 t10.2.2.2.2.2.2.1 t9.2.1 t9.2.2.1 t9.2.2.2)) else (Zo.l0 k N x11 (((n + 1:Nat):Int)) [] [] 0 0 0 [] [] 0 d s0 a b c s4 dir st t9.2.1 t9.2.2.1 t9.2.2.2))) else (Zo.l0 k N x11 (((n + 1:Nat):Int)) [] [] 0 0 0 [] [] 0 d s0 a b c s4 dir st t9.2.1 t9.2.2.1 t9.2.2.2))))) (Grown rb rm l):=by
   intro x11 bs bl s i y hbl hn hm hc
   have had:=add_next rb rm d s0 a b c s4 dir st bs bl
   refine To.bind (P:=fun z => z = addOf rb rm d s0 a b c s4 dir st bs bl) (To.ev (Z6c rb hrb rm hrm d (by omega) s0 a b c s4 dir st bs bl (by omega) (by omega) (by omega) (by omega)) rfl) (fun t7 e7 => ?_)
   subst e7
   refine To.ite (fun hk => ?_) (fun _ => tail x11 d s0 a b c s4 dir st s i y hn hm hg hc)
   obtain ⟨r1,r2,r3,r4⟩:=had hk
   refine To.bind (P:=fun z => z = ZF d (addOf rb rm d s0 a b c s4 dir st bs bl).2.2.2.2.2.2.2.1) (To.ev (Z2T d (by omega) _ (by omega) r2) rfl) (fun t8 e8 => ?_)
   subst e8
   exact tail x11 _ _ _ _ _ _ _ _ s i y hn hm r4 hc
  refine To.step (fun _ => rfl) ?_
  simp only [Zo.l0,Z5 (show n≤9223372036854775806 by omega)]
  refine To.ite (fun hlt => ?_) (fun _ => To.now ⟨hg,hc⟩)
  refine To.bind (Z1r hl y hc 2) (fun t3 p3 => To.bind (Z6l hl _ p3.2.2 _) (fun t4 p4 => To.bind (Z4f hl _ p4.2.2 6) (fun t5 p5 => To.ite (fun _ => ?_) (fun _ => ?_))))
  ·refine To.bind (Zb2 40 _ (by omega) (by omega)) (fun t6 _ => To.pos (by have:=p4.2.1.1;omega) ?_)
   exact goOn _ t4.1 _ t5.2.1 t5.2.2.1 t5.2.2.2 (by have:=p4.2.1.1;simp;omega) (by omega) (by omega) p5
  ·exact goOn _ t4.1 _ t5.2.1 t5.2.2.1 t5.2.2.2 (by have:=p4.2.1.1;omega) (by omega) (by omega) p5
theorem Zav {rb:RBf} (hrb:∀ c,c.size≤9000→RB c (rb c)) {rm:RMf} (hrm:∀ s,s.size≤1000000→RM s (rm s)) {l:List Int} (hl:l.length≤140737488351232) {s:List Int} {i:Int} (y:Int) (h:Cu l s i) (N:Int) (hN:N≤1000):To (fun k => Zo.f k s i y N) (Grown rb rm l):=by
 unfold Zo.f
 refine To.bind (ZaN hl y h) (fun t0 p0 => ?_)
 obtain ⟨f1,f2⟩:=format_clean rb hrm p0.1
 have hc4:t0.1.length≤4:=by
  have h:=p0.1
  rw [Z4o,Bool.and_eq_true] at h
  have:=Zr.1 h.1;omega
 refine To.bind (P:=fun z => z = Z3y t0.1) (To.ev (Z7N t0.1 (by omega)) rfl) (fun t1 e1 => ?_)
 subst e1
 have hg:Gd rb rm (Z3y t0.1).1 [0] 1 0 0 t0.1 [] 0:=f2
 have hs:=hg.small hrm
 refine To.bind (P:=fun z => z = ZL rb rm (Z3y t0.1).1) (To.ev (Z4C rb hrb rm hrm _ (by omega)) rfl) (fun t2 e2 => ?_)
 subst e2
 rw [f2]
 exact Z8x hrb hrm hl N hN N.toNat 0 0 _ _ _ _ _ _ _ _ _ _ _ (by omega) (by omega) hg p0.2
def Drawn (rb:RBf) (rm:RMf) (r:List S122×List Int×Int×Int×Int×List Int×List S145×Int×Int×List S162):Prop:=Gd rb rm r.1 r.2.1 r.2.2.1 r.2.2.2.1 r.2.2.2.2.1 r.2.2.2.2.2.1 r.2.2.2.2.2.2.1 r.2.2.2.2.2.2.2.1∧Z5m 8 r.2.2.2.2.2.2.2.2.2∧r.2.2.2.2.2.2.2.1 < r.2.2.2.2.2.2.2.2.1
theorem Gd.stamp {rb:RBf} (hrb:∀ c,c.size≤9000→RB c (rb c)) {rm:RMf} (hrm:∀ s,s.size≤1000000→RM s (rm s)) {d:List S122} {s0:List Int} {a b c:Int} {s4:List Int} {dir:List S145} {st:Int} (h:Gd rb rm d s0 a b c s4 dir st):0≤st∧st≤100000:=by
 obtain ⟨-,g2,-,-,-,-,-,-,-,-,-⟩:=Z2j hrm h
 have hb:=(ZY g2).2.2.1
 have h':ZL rb rm d = (s0,a,b,c,s4,dir,st,[],0):=h
 have hl:=ZcV hrb hrm (d:=d) (by rw [h'])
 rw [h'] at hl
 dsimp only at hl
 omega
theorem Zc2 (l:List Int) (hl:l.length≤1048576):∃ r,Z3u.f l = some r∧3≤r∧r≤18:=by
 unfold Z3u.f
 rw [Z9 (n:=(l.length:Int) / 20) (by omega) (by omega),Z9 (n:=3 + (l.length:Int) / 20) (by omega) (by omega)]
 split
 ·exact ⟨_,rfl,by omega,by omega⟩
 ·exact ⟨_,rfl,by omega,by omega⟩
theorem Z6m {rb:RBf} (hrb:∀ c,c.size≤9000→RB c (rb c)) {rm:RMf} (hrm:∀ s,s.size≤1000000→RM s (rm s)) (l:List Int) (hl:l.length≤1048576):To (fun k => Z1w.f k l) (Drawn rb rm):=by
 have hl':l.length≤140737488351232:=by omega
 unfold Z1w.f
 obtain ⟨sz,hsz,hle⟩:=Zc2 l hl
 refine To.bind (Z7i l hl') (fun t0 p0 => To.call (P:=fun r => 3≤r∧r≤18) ⟨sz,hsz,hle⟩ (fun t1 p1 => To.bind (Z1r hl' _ p0 t1) (fun t2 p2 => ?_)))
 have hN:t2.1≤1000:=by have:=p2.2.1 (by omega);omega
 refine To.bind (Zav hrb hrm hl' _ p2.2.2 t2.1 hN) (fun t3 p3 => To.bind (Z1r hl' _ p3.2 3) (fun t4 p4 => To.bind (Z6l hl' _ p4.2.2 _) (fun t5 p5 => To.now ⟨p3.1,p5.2.1,?_⟩)))
 have hst:=p3.1.stamp hrb hrm
 have h4:=p4.2.1 (by omega)
 have h0:=p4.1
 have h5:=p5.1
 dsimp only
 rw [h5,Z9 (n:=t3.2.2.2.2.2.2.2.1 + 1) (by omega) (by omega),Z9 (by omega) (by omega)]
 omega
theorem Z5M (l:List S147) (hl:l.length≤1048576):Ev (fun k => Z05.f k l l) true:=by
 have loop:∀ (rest:List S147) (n:Nat),l.drop n = rest→Ev (fun k => Z05.l0 k l l (n:Int)) true:=by
  intro rest
  induction rest with
  | nil =>
   intro n h
   have:=ZE h
   refine Ev.step (fun _ => rfl) ?_
   simp only [Z05.l0]
   exact Ev.neg (by omega) (Ev.now _)
  | cons x t ih =>
   intro n h
   obtain ⟨h1,-,h3⟩:=Zi h
   refine Ev.step (fun _ => rfl) ?_
   simp only [Z05.l0,Z5 (show n≤9223372036854775806 by omega)]
   exact Ev.pos (by omega) (Ev.pos (by omega) (Ev.pos (by omega) (Ev.neg (by simp) (ih (n + 1) h3))))
 unfold Z05.f
 exact Ev.pos rfl (loop l 0 rfl)
theorem Zbr (l m:List S147) (hl:l.length≤1048576):To (fun k => Z05.f k l m) (fun _ => True):=by
 unfold Z05.f
 refine To.ite (fun hlen => ?_) (fun _ => To.now trivial)
 have loop:∀ (j n:Nat),l.length - n≤j→n≤l.length→To (fun k => Z05.l0 k l m (n:Int)) (fun _ => True):=by
  intro j
  induction j with
  | zero =>
   intro n h1 h2
   refine To.step (fun _ => rfl) ?_
   simp only [Z05.l0]
   exact To.neg (by omega) (To.now trivial)
  | succ j ih =>
   intro n h1 h2
   refine To.step (fun _ => rfl) ?_
   simp only [Z05.l0,Z5 (show n≤9223372036854775806 by omega)]
   exact To.ite (fun _ => To.pos (by omega) (To.pos (by omega) (To.ite (fun _ => To.now trivial) (fun _ => ih (n + 1) (by omega) (by omega))))) (fun _ => To.now trivial)
 exact loop l.length 0 (by omega) (by omega)
theorem files_sub {d d':List S122} (h:ZT d = true) (hs:d'.Sublist d):ZT d' = true:=by
 have key:∀ {d' d:List S122},d'.Sublist d→∀ (p:Option ByteArray),Z2o p d = true→Z2o p d' = true:=by
  intro d' d hs
  induction hs with
  | slnil => intro p h;exact h
  | @cons l1 l2 a hs ih =>
   intro p h
   refine ih p ?_
   cases l2 with
   | nil => rfl
   | cons y t =>
    rw [Z2o] at h ⊢
    simp only [Bool.and_eq_true] at h ⊢
    obtain ⟨h1,h2,h3,h4⟩:=h
    rw [Z2o] at h4
    simp only [Bool.and_eq_true] at h4
    obtain ⟨k1,k2,k3,k4⟩:=h4
    refine ⟨k1,k2,?_,k4⟩
    cases p with
    | none => rfl
    | some q => exact Z1Y h3 k3
  | @cons_cons l1 l2 a hs ih =>
   intro p h
   rw [Z2o] at h ⊢
   simp only [Bool.and_eq_true] at h ⊢
   exact ⟨h.1,h.2.1,h.2.2.1,ih _ h.2.2.2⟩
 simp only [ZT,Bool.and_eq_true,decide_eq_true_eq] at h ⊢
 exact ⟨Nat.le_trans hs.length_le h.1,key hs none h.2⟩
theorem ZdS {d:List S122} (h:ZT d = true) (n:ByteArray):ZT (dropF n d) = true:=files_sub h List.filter_sublist
theorem Zdh:∀ (ns:List ByteArray) (d:List S122) (k:Nat),ZT d = true→ns.Nodup→(∀ n∈ns,stands (Z8 n) d = true)→Z1k (ns.map fun n => (⟨4,n,⟨#[]⟩,⟨#[]⟩⟩:S119)) d k = (ns.foldl (fun d n => dropF n d) d,k + ns.length)
 | [],d,k,_,_,_ => rfl
 | n::t,d,k,hd,hn,hs => by
  have hu:=(Z0z hd).2
  have e:Z1F d (⟨4,n,⟨#[]⟩,⟨#[]⟩⟩:S119) = (dropF n d,true):=by
   unfold Z1F
   have hp:Z0q d (⟨4,n,⟨#[]⟩,⟨#[]⟩⟩:S119) = dropF n d:=by
    unfold Z0q
    rw [if_neg (show ¬ (4:Int) = 1 by decide),if_neg (show ¬ (4:Int) = 2 by decide),if_neg (show ¬ (4:Int) = 3 by decide)]
   rw [hp,hd,hs n List.mem_cons_self,if_pos (show (true && (inR 4 1 4 && (decide ((4:Int) < 3) || true))) = true by decide),if_pos (ZdS hd n)]
  rw [List.map_cons,Z1k,e,if_pos rfl]
  dsimp only
  rw [Zdh t _ _ (ZdS hd n) (List.nodup_cons.1 hn).2 (fun m hm => (Z9W hu m).2 ⟨fun e => (List.nodup_cons.1 hn).1 (e ▸ hm),hs m (List.mem_cons_of_mem _ hm)⟩),List.foldl_cons,List.length_cons]
  congr 1;omega
theorem Z5H:∀ (ns:List ByteArray) (d:List S122) (x:S122),x∈ns.foldl (fun d n => dropF n d) d↔x∈d∧x.f0 ∉ ns
 | [],d,x => by simp
 | n::t,d,x => by
  rw [List.foldl_cons,Z5H t,Z8G]
  simp only [List.mem_cons,not_or]
  constructor
  ·rintro ⟨⟨h1,h2⟩,h3⟩;exact ⟨h1,h2,h3⟩
  ·rintro ⟨h1,h2,h3⟩;exact ⟨⟨h1,h2⟩,h3⟩
theorem ZdO:∀ (ns:List ByteArray) (d:List S122),ZT d = true→ZT (ns.foldl (fun d n => dropF n d) d) = true
 | [],_,h => h
 | n::t,d,h => by rw [List.foldl_cons];exact ZdO t _ (ZdS h n)
theorem Z6Z {ns:List ByteArray} {d:List S122} (hd:ZT d = true) {key:ByteArray} (hk:key ∉ ns):Zn key (ns.foldl (fun d n => dropF n d) d) = Zn key d∧(stands (Z8 key) (ns.foldl (fun d n => dropF n d) d) = true↔stands (Z8 key) d = true):=by
 have h1:=(Z0z hd).2
 have h2:=(Z0z (ZdO ns d hd)).2
 have hs:stands (Z8 key) (ns.foldl (fun d n => dropF n d) d) = true↔stands (Z8 key) d = true:=by
  rw [Z53 h2,Z53 h1]
  constructor
  ·rintro ⟨x,hx,e⟩;exact ⟨x,((Z5H ns d x).1 hx).1,e⟩
  ·rintro ⟨x,hx,e⟩;exact ⟨x,(Z5H ns d x).2 ⟨hx,by rw [e];exact hk⟩,e⟩
 refine ⟨?_,hs⟩
 by_cases hst:stands (Z8 key) d = true
 ·obtain ⟨x,hx,rfl⟩:=Z4m hst
  rw [(Z1P h1 hx).2,(Z1P h2 ((Z5H ns d x).2 ⟨hx,hk⟩)).2]
 ·rw [Z4w hst,Z4w (fun h => hst (hs.1 h))]
def Z4V (d:List S122):List ByteArray:=if stands (Z8 ⟨#[109,43]⟩) d = true then [⟨#[109,43]⟩] else []
def Z3Q (segs:List Int) (d:List S122):List ByteArray:=(d.filter (dropB segs)).map (·.f0)
theorem Zdt (d:List S122) (segs:List Int):Z3t d++Z2a segs d = (Z4V d++Z3Q segs d).map fun n => (⟨4,n,⟨#[]⟩,⟨#[]⟩⟩:S119):=by
 unfold Z3t Z4V Z2a Z3Q
 rw [List.map_append,List.map_map]
 congr 1
 split <;> rfl
theorem dropB_seg {segs:List Int} {x:S122} (h:dropB segs x = true):∃ n:Int,(0≤n∧n≤999)∧n ∉ segs∧x.f0 = segT n:=by
 unfold dropB at h
 simp only [Bool.and_eq_true,decide_eq_true_eq,Bool.not_eq_true',List.contains_eq_mem,decide_eq_false_iff_not] at h
 rcases Z4x x.f0 with ⟨n,h1,h2,h3⟩ | ⟨h1,-⟩
 ·rw [h3] at h
  exact ⟨n,by omega,h.2,h2⟩
 ·rw [h1] at h;omega
theorem core_open {rb:RBf} {rm:RMf} {d:List S122} {s0:List Int} {a b c:Int} {s4:List Int} (hd:ZT d = true) (hs:stands (Z8 ⟨#[109]⟩) d = true) (hm:manAt rm d = (s0,a,b,c,s4,true)) (hn:s0≠[]) (hr:∀ n∈s0,0≤n∧n≤999) (hall:∀ n∈s0,stands (Z8 (segT n)) d = true) (h3:∀ n∈s0,fullT rb (Zn (segT n) d)) (hk:dirOk ((Z15 rb d s0).foldl layS []) = true) :
  ∃ raws,ZL rb rm d = (s0,a,b,c,s4,(Z15 rb d s0).foldl layS [],Z1A rb d b s0,raws,0)∧raws.length≤31∧(∀ r∈raws,r.f3.size≤1000000000)∧(ZF d raws).2 = (raws.length:Int)∧Gd rb rm (ZF d raws).1 s0 a b c s4 ((Z15 rb d s0).foldl layS []) (Z1A rb d b s0)∧∀ n∈s0,Zn (segT n) (ZF d raws).1 = Zn (segT n) d:=by
 have hl:Z0G rb rm d = (s0,a,b,c,s4,(Z15 rb d s0).foldl layS [],Z1A rb d b s0,endOf rb d s0 0,0):=by
  unfold Z0G
  rw [if_pos hd,hs,hm]
  dsimp only
  rw [if_pos (show (true && true) = true from rfl),if_pos (List.all_eq_true.2 hall),Z7B s0 [] b h3,List.nil_append]
  dsimp only
  rw [if_pos hk]
 obtain ⟨hdl,hu⟩:=Z0z hd
 have hshelf:ZL rb rm d = (s0,a,b,c,s4,(Z15 rb d s0).foldl layS [],Z1A rb d b s0,Z3t d++Z2a s0 d,0):=by
  obtain ⟨init,z,rfl⟩:∃ init z,s0 = init++[z]:=by
   rcases List.eq_nil_or_concat s0 with rfl | ⟨i,z,e⟩
   ·exact absurd rfl hn
   ·exact ⟨i,z,by rw [e];simp⟩
  have hz:=h3 z (by simp)
  unfold ZL
  rw [hl,if_pos rfl]
  dsimp only
  rw [Z4z,Z5I]
  unfold Z5o
  rw [if_neg (by unfold fullT at hz;unfold Z2U;omega),List.append_nil]
 obtain ⟨ns,hns⟩:∃ ns,ns = Z4V d++Z3Q s0 d:=⟨_,rfl⟩
 have hmem:∀ n∈ns,stands (Z8 n) d = true∧(n = ⟨#[109,43]⟩∨∃ k:Int,(0≤k∧k≤999)∧k ∉ s0∧n = segT k):=fun n h => by
  rw [hns] at h
  rcases List.mem_append.1 h with h | h
  ·unfold Z4V at h
   split at h
   ·rename_i hst
    obtain rfl:=List.mem_singleton.1 h
    exact ⟨hst,.inl rfl⟩
   ·cases h
  ·unfold Z3Q at h
   obtain ⟨x,hx,rfl⟩:=List.mem_map.1 h
   obtain ⟨hx1,hx2⟩:=List.mem_filter.1 hx
   obtain ⟨k,k1,k2,k3⟩:=dropB_seg hx2
   exact ⟨(Z1P hu hx1).1,.inr ⟨k,k1,k2,k3⟩⟩
 have hnd:ns.Nodup:=by
  rw [hns]
  have hd1:(Z3Q s0 d).Nodup:=by
   unfold Z3Q List.Nodup
   rw [List.pairwise_map]
   exact (List.Pairwise.filter _ hu).imp fun {x y} hxy => lt_ne hxy
  rw [List.nodup_append]
  refine ⟨by unfold Z4V;split <;> simp,hd1,fun x hx y hy e => ?_⟩
  subst e
  unfold Z4V at hx
  split at hx
  ·obtain rfl:=List.mem_singleton.1 hx
   unfold Z3Q at hy
   obtain ⟨z,hz,hz'⟩:=List.mem_map.1 hy
   obtain ⟨k,k1,-,k3⟩:=dropB_seg (List.mem_filter.1 hz).2
   exact (notm k1).2 (hz'.symm.trans k3)
  ·cases hx
 have hraws:Z3t d++Z2a s0 d = ns.map fun n => (⟨4,n,⟨#[]⟩,⟨#[]⟩⟩:S119):=by rw [Zdt,hns]
 have hlen:ns.length≤31:=by
  rw [hns,List.length_append]
  have h1:(Z4V d).length≤1:=by unfold Z4V;split <;> simp
  have h2:(Z3Q s0 d).length≤d.length:=by unfold Z3Q;rw [List.length_map];exact List.length_filter_le _ _
  omega
 have hdone:=Zdh ns d 0 hd hnd (fun n h => (hmem n h).1)
 have hput:ZF d (ns.map fun n => (⟨4,n,⟨#[]⟩,⟨#[]⟩⟩:S119)) = (ns.foldl (fun d n => dropF n d) d,(ns.length:Int)):=by
  unfold ZF
  rw [if_pos (by rw [hd,List.length_map,decide_eq_true (by omega)];rfl),hdone]
  simp
 have hseg:∀ n∈s0,segT n ∉ ns:=fun n h h' => by
  rcases (hmem _ h').2 with e | ⟨k,k1,k2,e⟩
  ·exact (Zab (hr n h)).2 e
  ·exact k2 (Z94 (hr n h) k1 e ▸ h)
 have hmn:(⟨#[109]⟩:ByteArray) ∉ ns:=fun h' => by
  rcases (hmem _ h').2 with e | ⟨k,k1,k2,e⟩
  ·exact mm e
  ·exact (notm k1).1 e
 have htx:∀ n∈s0,Zn (segT n) (ns.foldl (fun d n => dropF n d) d) = Zn (segT n) d:=fun n h => (Z6Z hd (hseg n h)).1
 obtain ⟨hsp,hst⟩:=Z3q (rb:=rb) s0 htx
 have hok:=ZdO ns d hd
 have hu':=(Z0z hok).2
 refine ⟨_,hshelf,?_,?_,?_,?_,?_⟩
 ·rw [hraws,List.length_map];exact hlen
 ·rw [hraws];intro r hr';obtain ⟨n,-,rfl⟩:=List.mem_map.1 hr';exact Nat.zero_le _
 ·rw [hraws,hput,List.length_map]
 ·rw [hraws,hput]
  unfold Gd
  rw [←hsp,←hst b]
  refine Z9h hok ((Z6Z hd hmn).2.2 hs) (by unfold manAt at hm ⊢;rw [(Z6Z hd hmn).1];exact hm) hn (fun n h => (Z6Z hd (hseg n h)).2.2 (hall n h)) ?_ ?_ (fun n h => by rw [htx n h];exact h3 n h) (by rw [hsp];exact hk)
  ·unfold Z3t
   rw [if_neg]
   intro h
   obtain ⟨x,hx,e⟩:=Z4m h
   obtain ⟨x1,x2⟩:=(Z5H ns d x).1 hx
   refine x2 ?_
   rw [hns,e]
   refine List.mem_append_left _ ?_
   unfold Z4V
   rw [if_pos (by rw [←e];exact (Z1P hu x1).1)]
   simp
  ·unfold Z2a
   rw [List.filter_eq_nil_iff.2,List.map_nil]
   intro x hx hB
   obtain ⟨x1,x2⟩:=(Z5H ns d x).1 hx
   refine x2 ?_
   rw [hns]
   refine List.mem_append_right _ ?_
   unfold Z3Q
   exact List.mem_map.2 ⟨x,List.mem_filter.2 ⟨x1,hB⟩,rfl⟩
 ·rw [hraws,hput]
  exact htx
theorem ZdN {xs:List S119} {n:Nat} (h:n < xs.length):xs[n]? = some (ZX xs (n:Int)):=rdT119_get h
def Z4U (l:List S119) (w:Nat):Nat:=if w < l.length∧(ZX l (w:Int)).f0≤2 then (ZX l (w:Int)).f3.size else 0
theorem ZaS (l:List S119) (hk:∀ r∈l,1≤r.f0) (w:Nat):Z3D.f l (w:Int) = some ((Z4U l w:Nat):Int):=by
 unfold Z3D.f Z4U
 by_cases h:w < l.length
 ·have h1:=hk _ (List.mem_of_getElem? (ZdN h))
  rw [if_neg (by omega),if_pos (by omega),if_pos (by omega)]
  by_cases h2:(ZX l (w:Int)).f0≤2
  ·rw [if_neg (by omega),if_neg (by omega),if_pos ⟨h,h2⟩]
  ·rw [if_pos (by omega),if_neg (fun e => h2 e.2)];rfl
 ·rw [if_pos (by omega),if_neg (fun e => h e.1)];rfl
def Z4T (r:S119) (p:Nat):S119:=⟨r.f0,r.f1,r.f2,r.f3.extract 0 p⟩
def Z2f (l:List S119) (w p:Nat):List S119:=l.take w++(if p = 0 then [] else [Z4T (ZX l (w:Int)) p])
def resOf (d:List S122) (done:List S119):List S122×Bool:=if (ZF d done).2 = (done.length:Int) then ((ZF d done).1,true) else ([],false)
theorem Z5n (d:List S122) (hd:ZT d = true) (l:List S119) (hl:l.length≤60) (hk:∀ r∈l,1≤r.f0∧r.f3.size≤1000000000) (w p:Nat) (hw:w≤l.length) (hp:p≤Z4U l w):Ev (fun k => Z2y.f k d l (w:Int) (p:Int)) (resOf d (Z2f l w p)):=by
 have hdl:=(Z0z hd).1
 have e0:(l.drop 0).take (((w:Int)).toNat - 0) = l.take w:=by simp
 have htk:(l.take w).length≤60:=by rw [List.length_take];omega
 have ht3:∀ r∈l.take w,r.f3.size≤1000000000:=fun r hr => (hk r (List.mem_of_mem_take hr)).2
 unfold Z2y.f
 refine Ev.bind (Ev.eq (Z2C d (by omega)) hd) (Ev.pos rfl (Ev.neg (by omega) (Ev.call (Z0m _ _ _) ?_)))
 rw [Zr.2 (show (0:Int)≤(w:Int)∧(w:Int)≤(l.length:Int) by omega)]
 refine Ev.pos rfl (Ev.call (ZaS l (fun r hr => (hk r hr).1) w) (Ev.call (Z0m _ _ _) ?_))
 rw [Zr.2 (show (0:Int)≤(p:Int)∧(p:Int)≤((Z4U l w:Nat):Int) by omega)]
 refine Ev.pos rfl (Ev.pos (by omega) (Ev.pos (by omega) ?_))
 rw [e0]
 refine Ev.pos (by omega) (Ev.ite (fun h => ?_) (fun h => ?_))
 ·have hroom:w < l.length∧(ZX l (w:Int)).f0≤2:=by
   unfold Z4U at hp
   split at hp
   ·assumption
   ·omega
  have hsz:p≤(ZX l (w:Int)).f3.size:=by
   unfold Z4U at hp
   rw [if_pos hroom] at hp;exact hp
  have hrk:=hk _ (List.mem_of_getElem? (ZdN hroom.1))
  have ed:Z2f l w p = ([]++l.take w)++[(⟨(ZX l (w:Int)).f0,(ZX l (w:Int)).f1,(ZX l (w:Int)).f2,(ZX l (w:Int)).f3.extract 0 ((p:Int)).toNat⟩:S119)]:=by
   unfold Z2f Z4T
   rw [if_neg (by omega),List.nil_append,Int.toNat_natCast]
  have hlen:(([]++l.take w)++[(⟨(ZX l (w:Int)).f0,(ZX l (w:Int)).f1,(ZX l (w:Int)).f2,(ZX l (w:Int)).f3.extract 0 ((p:Int)).toNat⟩:S119)]).length≤61:=by
   rw [List.nil_append,List.length_append,List.length_singleton];omega
  refine Ev.pos (by omega) (Ev.pos (by omega) (Ev.pos (by omega) (Ev.pos (by rw [List.nil_append];omega) ?_)))
  rw [←ed] at hlen ⊢
  refine Ev.bind (Z2T d (by omega) (Z2f l w p) (by omega) (fun r hr => ?_)) ?_
  ·unfold Z2f at hr
   rcases List.mem_append.1 hr with hr | hr
   ·exact ht3 r hr
   ·rw [if_neg (by omega)] at hr
    obtain rfl:=List.mem_singleton.1 hr
    unfold Z4T
    dsimp only
    rw [ByteArray.size_extract];omega
  ·unfold resOf
   exact Ev.ite (fun e => Ev.done (by rw [if_pos e])) (fun e => Ev.done (by rw [if_neg e]))
 ·have ed:Z2f l w p = []++l.take w:=by unfold Z2f;rw [if_pos (by omega),List.append_nil,List.nil_append]
  rw [←ed]
  have hlen:(Z2f l w p).length≤60:=by rw [ed,List.nil_append];exact htk
  refine Ev.bind (Z2T d (by omega) (Z2f l w p) (by omega) (fun r hr => ?_)) ?_
  ·rw [ed,List.nil_append] at hr;exact ht3 r hr
  ·unfold resOf
   exact Ev.ite (fun e => Ev.done (by rw [if_pos e])) (fun e => Ev.done (by rw [if_neg e]))
theorem ZdC (d:List S122) (hd:ZT d = true) (l:List S119) (hl:l.length≤60) (hk:∀ r∈l,1≤r.f0∧r.f3.size≤1000000000) (a b:Int) (ha:0≤a) (hb:0≤b):∃ w p,w≤l.length∧p≤Z4U l w∧Ev (fun k => Z4u.f k d l a b) (resOf d (Z2f l w p)):=by
 have h0:=Int.tmod_nonneg ((l.length:Int) + 1) ha
 have h1:=Int.tmod_lt_of_pos a (show (0:Int) < (l.length:Int) + 1 by omega)
 obtain ⟨w,hw⟩:=Int.eq_ofNat_of_zero_le h0
 unfold Z4u.f
 rw [Z9 (n:=(l.length:Int) + 1) (by omega) (by omega),hw]
 rw [hw] at h1
 by_cases hlt:w < l.length
 ·have hrk:=hk _ (List.mem_of_getElem? (ZdN hlt))
  by_cases h2:(ZX l (w:Int)).f0≤2
  ·have g0:=Int.tmod_nonneg (((ZX l (w:Int)).f3.size:Int) + 1) hb
   have g1:=Int.tmod_lt_of_pos b (show (0:Int) < ((ZX l (w:Int)).f3.size:Int) + 1 by omega)
   obtain ⟨p,hp⟩:=Int.eq_ofNat_of_zero_le g0
   rw [hp] at g1
   have hroom:p≤Z4U l w:=by unfold Z4U;rw [if_pos ⟨hlt,h2⟩];omega
   refine ⟨w,p,by omega,hroom,Ev.neg (by omega) (Ev.pos (by omega) (Ev.pos (by omega) (Ev.pos h2 ?_)))⟩
   rw [Z9 (n:=((ZX l (w:Int)).f3.size:Int) + 1) (by omega) (by omega),hp]
   exact Ev.neg (by omega) (Ev.bind (Z5n d hd l hl hk w p (by omega) hroom) (Ev.now _))
  ·exact ⟨w,0,by omega,Nat.zero_le _,Ev.neg (by omega) (Ev.pos (by omega) (Ev.pos (by omega) (Ev.neg h2 (Ev.bind (Z5n d hd l hl hk w 0 (by omega) (Nat.zero_le _)) (Ev.now _)))))⟩
 ·exact ⟨w,0,by omega,Nat.zero_le _,Ev.neg (by omega) (Ev.neg (by omega) (Ev.bind (Z5n d hd l hl hk w 0 (by omega) (Nat.zero_le _)) (Ev.now _)))⟩
theorem Z9Z {d:List S122} {r:S119} (h:(Z1F d r).2 = true):ZT d = true∧ZT (Z0q d r) = true∧(Z1F d r).1 = Z0q d r∧(inR r.f0 1 4 && (decide (r.f0 < 3) || stands (Z8 r.f1) d)) = true:=by
 unfold Z1F at h ⊢
 split at h
 ·rename_i h1
  rw [if_pos h1]
  split at h
  ·rename_i h2
   rw [if_pos h2]
   rw [Bool.and_eq_true] at h1
   exact ⟨h1.1,h2,rfl,h1.2⟩
  ·cases h
 ·cases h
theorem Za3 {d:List S122} {r:S119} (h1:ZT d = true) (h2:ZT (Z0q d r) = true) (h3:(inR r.f0 1 4 && (decide (r.f0 < 3) || stands (Z8 r.f1) d)) = true):(Z1F d r).2 = true:=by
 unfold Z1F
 rw [h1,h3,if_pos (show (true && true) = true from rfl),if_pos h2]
theorem Z7n:∀ (l:List S119) (d:List S122) (n:Nat),(∀ p r q,l = p++r::q→(Z1F (p.foldl Z0q d) r).2 = true)→Z1k l d n = (l.foldl Z0q d,n + l.length)
 | [],d,n,_ => rfl
 | x::t,d,n,h => by
  have hx:(Z1F d x).2 = true:=h [] x t rfl
  rw [Z1k,if_pos hx,(Z9Z hx).2.2.1]
  rw [Z7n t _ _ (fun p r q e => by have:=h (x::p) r q (by rw [e];rfl);exact this),List.foldl_cons,List.length_cons]
  congr 1;omega
theorem Z6t {d:List S122} (hd:ZT d = true) {l:List S119} (hl:l.length≤60) (h:∀ p r q,l = p++r::q→(Z1F (p.foldl Z0q d) r).2 = true):ZF d l = (l.foldl Z0q d,(l.length:Int)):=by
 unfold ZF
 rw [if_pos (by rw [hd,decide_eq_true hl];rfl),Z7n l d 0 h]
 simp
theorem Z8l:∀ (l l':List S122) (p:Option ByteArray),l'.map (·.f0) = l.map (·.f0)→(∀ x∈l',x.f1.size≤20000)→Z2o p l = true→Z2o p l' = true
 | [],[],_,_,_,_ => rfl
 | [],_::_,_,h,_,_ => by simp at h
 | _::_,[],_,h,_,_ => rfl
 | x::t,y::u,p,h,hs,hf => by
  simp only [List.map_cons,List.cons.injEq] at h
  rw [Z2o] at hf ⊢
  simp only [Bool.and_eq_true] at hf ⊢
  obtain ⟨k1,k2,k3,k4⟩:=hf
  rw [h.1]
  exact ⟨k1,decide_eq_true (hs y List.mem_cons_self),k3,Z8l t u _ h.2 (fun z hz => hs z (List.mem_cons_of_mem _ hz)) k4⟩
theorem putF_ok {name text text':ByteArray} {d:List S122} (h:ZT (putF name text d) = true) (hs:text'.size≤20000):ZT (putF name text' d) = true:=by
 have hm:=Z52 h
 simp only [ZT,Bool.and_eq_true,decide_eq_true_eq] at h ⊢
 have e:(putF name text' d).map (·.f0) = (putF name text d).map (·.f0):=by unfold putF;simp
 refine ⟨?_,Z8l _ _ none e (fun x hx => ?_) h.2⟩
 ·have:=congrArg List.length e
  rw [List.length_map,List.length_map] at this
  omega
 ·rcases Z3W.1 hx with ⟨h1,h2⟩ | rfl
  ·exact (hm x (Z3W.2 (.inl ⟨h1,h2⟩))).2
  ·exact hs
theorem trunc_ok {d:List S122} {r:S119} (h:(Z1F d r).2 = true) (h2:r.f0≤2) (p:Nat):(Z1F d (Z4T r p)).2 = true:=by
 obtain ⟨h1,h3,-,h4⟩:=Z9Z h
 have hr:=h4
 rw [Bool.and_eq_true] at hr
 have hin:=Zr.1 hr.1
 have hex:(r.f3.extract 0 p).size≤r.f3.size:=by rw [ByteArray.size_extract];omega
 refine Za3 h1 ?_ ?_
 ·unfold Z0q at h3 ⊢
  by_cases e1:r.f0 = 1
  ·rw [if_pos e1] at h3
   rw [if_pos (show (Z4T r p).f0 = 1 from e1)]
   have:=(Z52 h3 _ (Z3W.2 (.inr rfl))).2
   exact putF_ok h3 (by unfold Z4T;dsimp only at this ⊢;omega)
  ·have e2:r.f0 = 2:=by omega
   rw [if_neg e1,if_pos e2] at h3
   rw [if_neg (show ¬ (Z4T r p).f0 = 1 from e1),if_pos (show (Z4T r p).f0 = 2 from e2)]
   have:=(Z52 h3 _ (Z3W.2 (.inr rfl))).2
   refine putF_ok h3 ?_
   unfold Z4T
   dsimp only at this ⊢
   rw [size_append] at this ⊢
   omega
 ·have:(Z4T r p).f0 = r.f0:=rfl
  rw [this,hr.1,decide_eq_true (show r.f0 < 3 by omega)];rfl
theorem done_make {d:List S122} (hd:ZT d = true) {l:List S119} (hl:l.length≤59) (q2:∀ p r q,l = p++r::q→(Z1F (p.foldl Z0q d) r).2 = true) {w p:Nat} (hw:w≤l.length) (hp:p≤Z4U l w):ZF d (Z2f l w p) = ((Z2f l w p).foldl Z0q d,((Z2f l w p).length:Int)):=by
 have htake:∀ p' r q,l.take w = p'++r::q→(Z1F (p'.foldl Z0q d) r).2 = true:=fun p' r q e => q2 p' r (q++l.drop w) (by
  have h1:=List.take_append_drop w l
  rw [e] at h1
  rw [←List.cons_append,←List.append_assoc]
  exact h1.symm)
 by_cases h0:p = 0
 ·have e:Z2f l w p = l.take w:=by unfold Z2f;rw [if_pos h0,List.append_nil]
  rw [e]
  exact Z6t hd (by rw [List.length_take];omega) htake
 ·have hroom:w < l.length∧(ZX l (w:Int)).f0≤2:=by
   unfold Z4U at hp
   split at hp
   ·assumption
   ·omega
  have e:Z2f l w p = l.take w++[Z4T (ZX l (w:Int)) p]:=by unfold Z2f;rw [if_neg h0]
  have hget:=ZdN hroom.1
  have hsplit:l = l.take w++ZX l (w:Int)::l.drop (w + 1):=by
   have h1:=List.take_append_drop w l
   have h2:l.drop w = ZX l (w:Int)::l.drop (w + 1):=by
    rw [List.drop_eq_getElem_cons hroom.1]
    congr 1
    rw [List.getElem?_eq_getElem hroom.1] at hget
    exact Option.some.inj hget
   rw [h2] at h1
   exact h1.symm
  rw [e]
  refine Z6t hd (by rw [List.length_append,List.length_take,List.length_singleton];omega) (fun p' r q he => ?_)
  rcases List.eq_nil_or_concat q with rfl | ⟨q',z,rfl⟩
  ·have:=List.append_inj' he rfl
   obtain ⟨e1,e2⟩:=this
   rw [←e1]
   simp only [List.cons.injEq,and_true] at e2
   rw [←e2]
   exact trunc_ok (q2 _ _ _ hsplit) hroom.2 p
  ·have he':l.take w++[Z4T (ZX l (w:Int)) p] = (p'++r::q')++[z]:=by rw [he];simp
   exact htake p' r q' (List.append_inj_left' he' rfl)
def Back (rb:RBf) (rm:RMf) (d:List S122) (M:List S147) (S:Int):Prop:=∃ t0 t1 t2 t3 t4 dir raws,ZL rb rm d = (t0,t1,t2,t3,t4,dir,S,raws,0)∧raws.length≤60∧(∀ r∈raws,r.f3.size≤1000000000)∧(ZF d raws).2 = (raws.length:Int)∧Gd rb rm (ZF d raws).1 t0 t1 t2 t3 t4 dir S∧dir.map (Z1e (ZF d raws).1) = M
theorem gd_back {rb:RBf} {rm:RMf} (hrm:∀ s,s.size≤1000000→RM s (rm s)) {d:List S122} {s0:List Int} {a b c:Int} {s4:List Int} {dir:List S145} {st:Int} (h:Gd rb rm d s0 a b c s4 dir st):Back rb rm d (dir.map (Z1e d)) st:=by
 have g1:=(Z2j hrm h).1
 have e:ZF d [] = (d,0):=by unfold ZF;rw [g1];rfl
 exact ⟨s0,a,b,c,s4,dir,[],h,by simp,(fun r hr => by cases hr),by rw [e];rfl,by rw [e];exact h,by rw [e]⟩
theorem core_back {rb:RBf} (hrb:∀ c,c.size≤9000→RB c (rb c)) {rm:RMf} (hrm:∀ s,s.size≤1000000→RM s (rm s)) {d d1:List S122} {s0:List Int} {a b c:Int} {s4:List Int} {dir:List S145} {st:Int} (h:Gd rb rm d s0 a b c s4 dir st) (h1:ZT d1 = true) (hs:∀ key,key = ⟨#[109]⟩∨(∃ n∈s0,key = segT n)→(stands (Z8 key) d1 = true)∧Zn key d1 = Zn key d):Back rb rm d1 (dir.map (Z1e d)) st:=by
 obtain ⟨g1,g2,g3,g4,g5,g6,g7,g8,g9,g10,g11⟩:=Z2j hrm h
 obtain ⟨b1,-,-,-,-,b6,-⟩:=ZY g2
 have htx:∀ n∈s0,Zn (segT n) d1 = Zn (segT n) d:=fun n hn => (hs _ (.inr ⟨n,hn,rfl⟩)).2
 obtain ⟨e1,e2⟩:=Z3q (rb:=rb) s0 htx
 obtain ⟨raws,r1,r2,r3,r4,r5,r6⟩:=core_open (rb:=rb) (rm:=rm) (d:=d1) (s0:=s0) (a:=a) (b:=b) (c:=c) (s4:=s4) h1 (hs _ (.inl rfl)).1 (by unfold manAt at g4 ⊢;rw [(hs _ (.inl rfl)).2];exact g4) (fun e => by rw [e] at b1;simp at b1) b6 (fun n hn => (hs _ (.inr ⟨n,hn,rfl⟩)).1) (fun n hn => by rw [htx n hn];exact g8 n hn) (by rw [e1,←g10];exact g9)
 rw [e1,←g10,e2 b,←g11] at r1 r5
 refine ⟨s0,a,b,c,s4,dir,raws,r1,by omega,r3,r4,r5,List.map_congr_left fun x hx => ?_⟩
 have hx':x∈(Z15 rb d s0).foldl layS []:=by rw [←g10];exact hx
 obtain ⟨x1,-,-,x4⟩:=dir_in hrb x hx'
 refine Z5Y (w:=⟨#[]⟩) ?_ x4
 rw [r6 x.f1 x1,htx x.f1 x1]
 exact Z0N (by rw [Z07];simp [bytesOf])
theorem Zbq {d:List S122} (hd:ZT d = true) {l:List S119} (hl:l.length≤60):ZT (ZF d l).1 = true:=by
 unfold ZF
 rw [if_pos (by rw [hd,decide_eq_true hl];rfl)]
 exact (Z3X l d 0 hd).1
theorem same_gd {rb:RBf} {rm:RMf} (hrm:∀ s,s.size≤1000000→RM s (rm s)) {d d2:List S122} {s0:List Int} {a b c:Int} {s4:List Int} {dir:List S145} {st:Int} (h:Gd rb rm d s0 a b c s4 dir st) (h2:ZT d2 = true) (hs:∀ key,(stands (Z8 key) d2 = true↔stands (Z8 key) d = true)) (ht:∀ key,Zn key d2 = Zn key d):Gd rb rm d2 s0 a b c s4 dir st:=by
 obtain ⟨g1,g2,g3,g4,g5,g6,g7,g8,g9,g10,g11⟩:=Z2j hrm h
 obtain ⟨b1,-,-,-,-,b6,-⟩:=ZY g2
 obtain ⟨e1,e2⟩:=Z3q (rb:=rb) (d:=d) (d':=d2) s0 (fun n _ => ht _)
 unfold Gd
 rw [g11,←e2 b]
 have hdir:dir = (Z15 rb d2 s0).foldl layS []:=by rw [e1];exact g10
 rw [hdir]
 refine Z9h h2 ((hs _).2 g3) (by unfold manAt at g4 ⊢;rw [ht];exact g4) (fun e => by rw [e] at b1;simp at b1) (fun n hn => (hs _).2 (g5 n hn)) ?_ ?_ (fun n hn => by rw [ht];exact g8 n hn) (by rw [←hdir];exact g9)
 ·unfold Z3t at g6 ⊢
  by_cases hn:stands (Z8 ⟨#[109,43]⟩) d = true
  ·rw [if_pos hn] at g6;cases g6
  ·rw [if_neg (fun k => hn ((hs _).1 k))]
 ·unfold Z2a at g7 ⊢
  rw [List.map_eq_nil_iff,List.filter_eq_nil_iff] at g7
  rw [List.filter_eq_nil_iff.2,List.map_nil]
  intro x hx hB
  obtain ⟨y,hy,e⟩:=Z4m ((hs _).1 (Z1P (Z0z h2).2 hx).1)
  refine g7 y hy ?_
  unfold dropB at hB ⊢
  rw [e];exact hB
theorem Zbk {rb:RBf} {d:List S122} (z:Int):∀ (init:List Int) (sp:List S145) (st:Int),(∀ n∈init,Z2U rb d n = ((Zn (segT n) d).size:Int))→Z2R rb d (init++[z]) sp st = some (sp++Z15 rb d (init++[z]),Z1A rb d st (init++[z]))
 | [],sp,st,_ => by
  simp only [List.nil_append,Z2R]
  rw [if_neg (by simp)]
  simp [Z15,Z1A]
 | n::t,sp,st,h => by
  have hn:=h n List.mem_cons_self
  rw [List.cons_append,Z2R,if_neg (fun e => by omega),Zbk z t _ _ (fun y hy => h y (List.mem_cons_of_mem _ hy))]
  simp [Z15,Z1A]
theorem torn_back {rb:RBf} (hrb:∀ c,c.size≤9000→RB c (rb c)) {rm:RMf} (hrm:∀ s,s.size≤1000000→RM s (rm s)) {d:List S122} {init:List Int} {z a b c:Int} {s4:List Int} {dir:List S145} {st:Int} (h:Gd rb rm d (init++[z]) a b c s4 dir st) {r:ByteArray} (hr:okRec r) {p:Nat} (h0:0 < p) (hp:p < (frame r).1.size) (hd1:ZT (putF (segT z) (Zn (segT z) d++(frame r).1.extract 0 p) d) = true):Back rb rm (putF (segT z) (Zn (segT z) d++(frame r).1.extract 0 p) d) (dir.map (Z1e d)) st:=by
 obtain ⟨g1,g2,g3,g4,g5,g6,g7,g8,g9,g10,g11⟩:=Z2j hrm h
 obtain ⟨b1,-,-,-,-,b6,-⟩:=ZY g2
 obtain ⟨hdl,hu⟩:=Z0z g1
 obtain ⟨hdl1,hu1⟩:=Z0z hd1
 have hz9:=b6 z (by simp)
 have hm:=notm hz9
 obtain ⟨T,hT⟩:∃ T,T = Zn (segT z) d:=⟨_,rfl⟩
 obtain ⟨fp,hfp⟩:∃ fp,fp = (frame r).1.extract 0 p:=⟨_,rfl⟩
 rw [←hT,←hfp] at hd1 hu1 hdl1 ⊢
 have hfull:=g8 z (by simp)
 rw [←hT] at hfull
 have hps:fp.size = p:=by rw [hfp,ByteArray.size_extract];omega
 have htx:∀ key,Zn key (putF (segT z) (T++fp) d) = if key = segT z then T++fp else Zn key d:=fun key => Z2B hu key
 have hsz:=Z3b hd1 (segT z)
 rw [htx,if_pos rfl,size_append] at hsz
 have hunf:Z00 (T++fp) = ((Z00 T).1,(T.size:Int)):=by
  obtain ⟨f1,f2,f3⟩:=Z9b hfull
  have hw:=At.whole (T++fp)
  rw [Z07,f3.all] at hw
  obtain ⟨w1,w2⟩:=hw.split
  have hl:(0:Int) + ((frs (Z00 T).1).length:Int) = (T.size:Int):=by have:=f3.2.1;omega
  rw [hl] at w1 w2
  have hb:bytesOf fp = (bytesOf (frame r).1).take p:=by rw [hfp,Z0M];simp
  rw [hb] at w2
  exact Zb3 (by rw [size_append];omega) (fun x hx => (f1 x hx).2) w1 (unf_cut hr w2 hp)
 have hscan:Z0Z rb (putF (segT z) (T++fp) d) z = Z0Z rb d z:=by
  unfold Z0Z
  rw [htx,if_pos rfl,hunf,←hT]
 have hend:Z2U rb (putF (segT z) (T++fp) d) z = (T.size:Int):=by
  unfold Z2U
  rw [htx,if_pos rfl,hunf]
  exact hfull
 have hpw:=(Z9f g2).1
 have hni:∀ n∈init,segT n≠segT z:=fun n hn e => by
  have hn9:=b6 n (by simp [hn])
  have e':=Z94 hn9 hz9 e
  rw [List.pairwise_append] at hpw
  have:=hpw.2.2 n hn z (by simp)
  omega
 obtain ⟨i1,i2⟩:=Z3q (rb:=rb) (d:=d) (d':=putF (segT z) (T++fp) d) init (fun n hn => by rw [htx,if_neg (hni n hn)])
 have hsp:Z15 rb (putF (segT z) (T++fp) d) (init++[z]) = Z15 rb d (init++[z]):=by
  unfold Z15 at i1 ⊢
  rw [List.flatMap_append,List.flatMap_append,i1,List.flatMap_singleton,List.flatMap_singleton,hscan]
 have hst:Z1A rb (putF (segT z) (T++fp) d) b (init++[z]) = Z1A rb d b (init++[z]):=by
  have i2:=i2 b
  unfold Z1A at i2 ⊢
  rw [List.foldl_append,List.foldl_append,i2,List.foldl_cons,List.foldl_nil,List.foldl_cons,List.foldl_nil,hscan]
 have hss:∀ key,stands (Z8 key) (putF (segT z) (T++fp) d) = true↔stands (Z8 key) d = true:=fun key => by
  rw [Z5a hu]
  exact ⟨fun e => e.elim (fun e => by rw [e];exact g5 z (by simp)) id,.inr⟩
 have hnew:Z3t (putF (segT z) (T++fp) d) = []:=by
  unfold Z3t at g6 ⊢
  by_cases hn:stands (Z8 ⟨#[109,43]⟩) d = true
  ·rw [if_pos hn] at g6;cases g6
  ·rw [if_neg (fun k => hn ((hss _).1 k))]
 have hdrop:Z2a (init++[z]) (putF (segT z) (T++fp) d) = []:=by
  unfold Z2a at g7 ⊢
  rw [List.map_eq_nil_iff,List.filter_eq_nil_iff] at g7
  rw [List.filter_eq_nil_iff.2,List.map_nil]
  intro x hx hB
  obtain ⟨y,hy,e⟩:=Z4m ((hss _).1 (Z1P hu1 hx).1)
  refine g7 y hy ?_
  unfold dropB at hB ⊢
  rw [e];exact hB
 have hman:manAt rm (putF (segT z) (T++fp) d) = (init++[z],a,b,c,s4,true):=by
  unfold manAt at g4 ⊢
  rw [htx,if_neg hm.1];exact g4
 have hload:Z0G rb rm (putF (segT z) (T++fp) d) = (init++[z],a,b,c,s4,dir,st,(T.size:Int),0):=by
  unfold Z0G
  rw [if_pos hd1,(hss _).2 g3,hman]
  dsimp only
  rw [if_pos (show (true && true) = true from rfl),if_pos (List.all_eq_true.2 fun n hn => (hss _).2 (g5 n hn)),Zbk z init [] b (fun n hn => by
   have:=g8 n (by simp [hn])
   unfold fullT at this
   unfold Z2U
   rw [htx,if_neg (hni n hn)];exact this),List.nil_append]
  dsimp only
  rw [hsp,←g10,if_pos g9,hst,←g11,Z5I,hend]
 have hx:(T++fp).extract 0 ((T.size:Int)).toNat = T:=by
  apply Z0N
  rw [Z0M,Z07,List.drop_zero,Int.toNat_natCast,List.take_append_of_le_length (by rw [Ze];omega),List.take_of_length_le (by rw [Ze];omega)]
 have hshelf:ZL rb rm (putF (segT z) (T++fp) d) = (init++[z],a,b,c,s4,dir,st,[⟨1,segT z,⟨#[]⟩,T⟩],0):=by
  unfold ZL
  rw [hload,if_pos rfl]
  dsimp only
  rw [hnew,hdrop,Z4z]
  unfold Z5o
  rw [htx,if_pos rfl,if_pos (by rw [size_append];omega),hx]
  rfl
 have hT20:T.size≤20000:=by omega
 have hd2:ZT (putF (segT z) T (putF (segT z) (T++fp) d)) = true:=by
  have e:putF (segT z) (T++fp) (putF (segT z) (T++fp) d) = putF (segT z) (T++fp) d:=by
   unfold putF
   simp only [List.filter_append,List.filter_filter,List.filter_cons,List.filter_nil,Z2Z]
   have h1:∀ x:S122,(lessK x.f0 (segT z) && lessK x.f0 (segT z)) = lessK x.f0 (segT z):=fun x => Bool.and_self _
   have h2:∀ x:S122,(lessK (segT z) x.f0 && lessK (segT z) x.f0) = lessK (segT z) x.f0:=fun x => Bool.and_self _
   have h3:∀ x:S122,(lessK x.f0 (segT z) && lessK (segT z) x.f0) = false:=fun x => by
    cases hA:lessK x.f0 (segT z)
    ·rfl
    ·cases hB:lessK (segT z) x.f0
     ·rfl
     ·have:=Z1H hA hB;rw [Z2Z] at this;cases this
   have h4:∀ x:S122,(lessK (segT z) x.f0 && lessK x.f0 (segT z)) = false:=fun x => by rw [Bool.and_comm];exact h3 x
   have h5:d.filter (fun _ => false) = []:=List.filter_eq_nil_iff.2 (fun _ _ => by simp)
   simp [h1,h2,h3,h4,h5]
  refine putF_ok (text:=T++fp) ?_ hT20
  rw [e];exact hd1
 have hput:ZF (putF (segT z) (T++fp) d) [⟨1,segT z,⟨#[]⟩,T⟩] = (putF (segT z) T (putF (segT z) (T++fp) d),1):=by
  have:=Z6t hd1 (l:=[(⟨1,segT z,⟨#[]⟩,T⟩:S119)]) (by simp) (fun q r' q' e => by
   cases q with
   | nil =>
    simp only [List.nil_append,List.cons.injEq] at e
    rw [←e.1]
    exact Za3 hd1 hd2 rfl
   | cons y q => simp at e)
  rw [this];rfl
 have hgd:Gd rb rm (putF (segT z) T (putF (segT z) (T++fp) d)) (init++[z]) a b c s4 dir st:=by
  refine same_gd hrm h hd2 (fun key => ?_) (fun key => ?_)
  ·rw [Z5a hu1,hss]
   exact ⟨fun e => e.elim (fun e => by rw [e];exact g5 z (by simp)) id,.inr⟩
  ·rw [Z2B hu1,htx]
   by_cases e:key = segT z
   ·rw [if_pos e,e,←hT]
   ·rw [if_neg e,if_neg e]
 refine ⟨_,_,_,_,_,_,_,hshelf,by simp,fun r' hr' => ?_,by rw [hput];rfl,by rw [hput];exact hgd,?_⟩
 ·obtain rfl:=List.mem_singleton.1 hr'
  dsimp only;omega
 ·rw [hput]
  refine List.map_congr_left fun x hx' => ?_
  have hx2:x∈(Z15 rb d (init++[z])).foldl layS []:=by rw [←g10];exact hx'
  obtain ⟨x1,-,-,x4⟩:=dir_in hrb x hx2
  refine Z5Y (w:=⟨#[]⟩) ?_ x4
  dsimp only
  rw [Z2B hu1,htx]
  by_cases e:segT x.f1 = segT z
  ·rw [if_pos e,e,←hT]
   exact Z0N (by rw [Z07];simp [bytesOf])
  ·rw [if_neg e,if_neg e]
   exact Z0N (by rw [Z07];simp [bytesOf])
theorem add_back {rb:RBf} (hrb:∀ c,c.size≤9000→RB c (rb c)) {rm:RMf} (hrm:∀ s,s.size≤1000000→RM s (rm s)) {d:List S122} {s0:List Int} {a b c:Int} {s4:List Int} {dir:List S145} {st:Int} (h:Gd rb rm d s0 a b c s4 dir st) {bs:Int} {bl:List S162} (hk:(Z4 bs bl).2 = true)
  (hp:(ZF d (ZZ d s0 a b c s4 (frame (Z4 bs bl).1).1)).2 = ((ZZ d s0 a b c s4 (frame (Z4 bs bl).1).1).length:Int)) {t0:List Int} {t1 t2 t3:Int} {t4:List Int} {dir':List S145} {st':Int}
  (h':Gd rb rm (ZF d (ZZ d s0 a b c s4 (frame (Z4 bs bl).1).1)).1 t0 t1 t2 t3 t4 dir' st') {w p:Nat} (hw:w≤(ZZ d s0 a b c s4 (frame (Z4 bs bl).1).1).length) (hpr:p≤Z4U (ZZ d s0 a b c s4 (frame (Z4 bs bl).1).1) w) :
  (ZF d (Z2f (ZZ d s0 a b c s4 (frame (Z4 bs bl).1).1) w p)).2 = ((Z2f (ZZ d s0 a b c s4 (frame (Z4 bs bl).1).1) w p).length:Int) ∧
  (Back rb rm (ZF d (Z2f (ZZ d s0 a b c s4 (frame (Z4 bs bl).1).1) w p)).1 (dir.map (Z1e d)) st∨Back rb rm (ZF d (Z2f (ZZ d s0 a b c s4 (frame (Z4 bs bl).1).1) w p)).1 (dir'.map (Z1e (ZF d (ZZ d s0 a b c s4 (frame (Z4 bs bl).1).1)).1)) st'):=by
 obtain ⟨g1,g2,g3,g4,g5,g6,g7,g8,g9,g10,g11⟩:=Z2j hrm h
 obtain ⟨hdl,hup⟩:=Z0z g1
 obtain ⟨b1,b2,-,-,b5,b6,-⟩:=ZY g2
 obtain ⟨sp,sn⟩:=Z9f g2
 obtain ⟨-,hokr⟩:=rb_bat hrb hk
 obtain ⟨init,z,rfl⟩:∃ init z,s0 = init++[z]:=by
  rcases List.eq_nil_or_concat s0 with rfl | ⟨i,z,e⟩
  ·simp at b1
  ·exact ⟨i,z,by rw [e];simp⟩
 have hlast:Z2Q (init++[z]) = z:=Z4z init z
 obtain ⟨f,hf⟩:∃ f,f = (frame (Z4 bs bl).1).1:=⟨_,rfl⟩
 have hl:=(Z3M d (init++[z]) a b c s4 (Z4 bs bl).1).1
 rw [←hf] at hp h' hw hpr hl ⊢
 obtain ⟨q1,q2⟩:=Zac g1 (by omega) hp
 have hmake:=done_make g1 (by omega) q2 hw hpr
 have hlen:(Z2f (ZZ d (init++[z]) a b c s4 f) w p).length≤4:=by
  unfold Z2f
  rw [List.length_append,List.length_take]
  have:(if p = 0 then [] else [Z4T (ZX (ZZ d (init++[z]) a b c s4 f) (w:Int)) p]).length≤1:=by split <;> simp
  omega
 have hd1:=Zbq g1 (l:=Z2f (ZZ d (init++[z]) a b c s4 f) w p) (by omega)
 refine ⟨by rw [hmake],?_⟩
 have hfin:=gd_back hrm h'
 rw [q1] at hfin h'
 rw [hmake] at hd1 ⊢
 dsimp only at hd1 ⊢
 rw [q1]
 have hold:=gd_back hrm h
 clear hmake hlen q1 q2 hp
 generalize hL:ZZ d (init++[z]) a b c s4 f = L at *
 unfold ZZ at hL
 by_cases hc:((Zn (segT (Z2Q (init++[z]))) d).size:Int)≥500∧(init++[z]).length < 8∧a≤999
 ·rw [if_pos hc] at hL
  have ha:0≤a∧a≤999:=⟨b2.1,hc.2.2⟩
  have hnot:a ∉ init++[z]:=fun e => by have:=sn a e;omega
  have core1:∀ f':ByteArray,ZT (putF (segT a) f' d) = true→Back rb rm (putF (segT a) f' d) (dir.map (Z1e d)) st:=fun f' hd' => by
   refine core_back hrb hrm h hd' (fun key hkey => ?_)
   have hne:key≠segT a:=by
    rcases hkey with rfl | ⟨n,hn,rfl⟩
    ·exact (notm ha).1
    ·exact fun e => hnot (Z94 (b6 n hn) ha e ▸ hn)
   have hst:stands (Z8 key) d = true:=by
    rcases hkey with rfl | ⟨n,hn,rfl⟩
    ·exact g3
    ·exact g5 n hn
   exact ⟨(Z5a hup key).2 (.inr hst),by rw [Z2B hup,if_neg hne]⟩
  have core2:∀ f' x:ByteArray,ZT (putF ⟨#[109,43]⟩ x (putF (segT a) f' d)) = true→Back rb rm (putF ⟨#[109,43]⟩ x (putF (segT a) f' d)) (dir.map (Z1e d)) st:=fun f' x hd' => by
   have hu1:=Zb8 (name:=segT a) (text:=f') hup
   refine core_back hrb hrm h hd' (fun key hkey => ?_)
   have hne:key≠segT a∧key≠⟨#[109,43]⟩:=by
    rcases hkey with rfl | ⟨n,hn,rfl⟩
    ·exact ⟨(notm ha).1,mm⟩
    ·exact ⟨fun e => hnot (Z94 (b6 n hn) ha e ▸ hn),(Zab (b6 n hn)).2⟩
   have hst:stands (Z8 key) d = true:=by
    rcases hkey with rfl | ⟨n,hn,rfl⟩
    ·exact g3
    ·exact g5 n hn
   exact ⟨(Z5a hu1 key).2 (.inr ((Z5a hup key).2 (.inr hst))),by rw [Z2B hu1,if_neg hne.2,Z2B hup,if_neg hne.1]⟩
  subst hL
  simp only [List.length_cons,List.length_nil] at hw
  obtain rfl | rfl | rfl | rfl:w = 0∨w = 1∨w = 2∨w = 3:=by omega
  ·left
   by_cases h0:p = 0
   ·subst h0;exact hold
   ·unfold Z2f at hd1 ⊢
    rw [if_neg h0] at hd1 ⊢
    exact core1 _ hd1
  ·left
   by_cases h0:p = 0
   ·subst h0
    exact core1 _ hd1
   ·unfold Z2f at hd1 ⊢
    rw [if_neg h0] at hd1 ⊢
    exact core2 _ _ hd1
  ·left
   have h0:p = 0:=by
    unfold Z4U at hpr
    rw [if_neg (fun e => absurd e.2 (by show ¬ (3:Int)≤2;decide))] at hpr
    omega
   subst h0
   exact core2 _ _ hd1
  ·right
   have h0:p = 0:=by
    unfold Z4U at hpr
    rw [if_neg (fun e => absurd e.1 (by simp))] at hpr
    omega
   subst h0
   exact hfin
 ·rw [if_neg hc,hlast] at hL
  subst hL
  simp only [List.length_cons,List.length_nil] at hw
  obtain rfl | rfl:w = 0∨w = 1:=by omega
  ·by_cases h0:p = 0
   ·left;subst h0;exact hold
   ·have hpf:p≤f.size:=by
     unfold Z4U at hpr
     split at hpr
     ·exact hpr
     ·omega
    unfold Z2f at hd1 ⊢
    rw [if_neg h0] at hd1 ⊢
    by_cases hlt:p < f.size
    ·left
     rw [hf] at hlt hd1 ⊢
     exact torn_back hrb hrm h hokr (by omega) hlt hd1
    ·right
     have he:f.extract 0 p = f:=by
      have:p = f.size:=by omega
      rw [this]
      exact Z0N (by rw [Z0M,List.drop_zero,List.take_of_length_le (by rw [Ze];omega)])
     have:Z4T (ZX [(⟨2,segT z,⟨#[]⟩,f⟩:S119)] ((0:Nat):Int)) p = ⟨2,segT z,⟨#[]⟩,f⟩:=by
      unfold Z4T
      show (⟨2,segT z,⟨#[]⟩,f.extract 0 p⟩:S119) = _
      rw [he]
     rw [this]
     exact hfin
  ·right
   have h0:p = 0:=by
    unfold Z4U at hpr
    rw [if_neg (fun e => absurd e.1 (by simp))] at hpr
    omega
   subst h0
   exact hfin
theorem Gd.openIs {rb:RBf} {rm:RMf} {d:List S122} {s0:List Int} {a b c:Int} {s4:List Int} {dir:List S145} {st:Int} (h:Gd rb rm d s0 a b c s4 dir st):openIs rb rm d s0 a b c s4 dir st = true:=openIs_of h
theorem Zdy (d:List S122) (s0:List Int) (a b c:Int) (s4:List Int) (f:ByteArray):∀ r∈ZZ d s0 a b c s4 f,1≤r.f0:=by
 unfold ZZ
 split <;> intro r hr <;> simp only [List.mem_cons,List.not_mem_nil,or_false] at hr
 ·rcases hr with rfl | rfl | rfl <;> (dsimp only;omega)
 ·subst hr;dsimp only;omega
theorem FnComesBack_q (l:List Int) (q:l.length * 1≤140737488351232∧∀ x∈l,(Lit.int .u8 x).wf = true):∃ k,laws_FnComesBack.f k l = some true:=by
 apply Ev.rounds
 unfold laws_FnComesBack.f
 refine Ev.call (a:=decide ((l.length:Int) > 1048576)) rfl (Ev.ite (fun _ => Ev.now _) (fun hn => ?_))
 have hl:l.length≤1048576:=by have:=of_decide_eq_false (Bool.eq_false_iff.2 hn);omega
 obtain ⟨rb,hrb⟩:=rb_all
 obtain ⟨rm,hrm⟩:=rm_all
 obtain ⟨r,hr,hg,hch,hst⟩:=Z6m hrb hrm l hl
 obtain ⟨d,s0,a,b,c,s4,dir,st,bs,bl⟩:=r
 dsimp only at hg hch hst
 obtain ⟨w1,w2,w3,w4⟩:=hg.small hrm
 have hd:=(Z2j hrm hg).1
 have hb8:=hch.1
 have hmap:=Z96 hrb hrm hg.openIs
 have hsm:=Z6e d (by omega) s0 a b c s4 dir st (by omega)
 rw [hmap.1] at hsm
 have hia:=Zaw rb hrb rm hrm d (by omega) s0 a b c s4 dir st bs bl (by omega)
 have hsa:=Z6c rb hrb rm hrm d (by omega) s0 a b c s4 dir st bs bl (by omega) (by omega) (by omega) (by omega)
 refine Ev.bind hr (Ev.bind hsm (Ev.bind hia (Ev.bind hsa (Ev.neg (by simp) (Ev.ite (fun hk => ?_) (fun hk => Ev.now _))))))
 obtain ⟨n1,n2,n3,n4⟩:=add_next rb rm d s0 a b c s4 dir st bs bl hk
 have hadd:(Z4 bs bl).2 = true∧addOf rb rm d s0 a b c s4 dir st bs bl = Z3E rb rm d (ZZ d s0 a b c s4 (frame (Z4 bs bl).1).1):=by
  unfold addOf at hk ⊢
  split at hk
  ·rename_i hc;rw [if_pos hc];exact ⟨hc.1,rfl⟩
  ·cases hk
 obtain ⟨ht,hao⟩:=hadd
 have hraws:(addOf rb rm d s0 a b c s4 dir st bs bl).2.2.2.2.2.2.2.1 = ZZ d s0 a b c s4 (frame (Z4 bs bl).1).1:=(after_eq hao.symm hk).2.1
 generalize addOf rb rm d s0 a b c s4 dir st bs bl = R at hk n1 n2 n3 n4 hraws
 obtain ⟨t0,t1,t2,t3,t4,dir',st',raws,ok⟩:=R
 dsimp only at hk n1 n2 n3 n4 hraws
 subst hraws
 obtain ⟨m1,m2,m3⟩:=add_map hrb hrm hg ht n3 n4
 have hg':Gd rb rm (ZF d (ZZ d s0 a b c s4 (frame (Z4 bs bl).1).1)).1 t0 t1 t2 t3 t4 dir' st':=n4
 obtain ⟨x1,x2,x3,x4⟩:=hg'.small hrm
 have hbst:st' = bs:=by rw [m1];unfold mx;rw [if_pos (by omega)]
 obtain ⟨P,hP,hP12,hP0⟩:=Z8B l (by omega)
 have hp0:0≤rd P 0:=by have:=ZbS P 0;rw [show ((0:Nat):Int) = 0 from rfl] at this;rw [this,List.getD_eq_getElem?_getD,List.getElem?_eq_getElem (by omega)];exact hP0 _ (List.getElem_mem _)
 have hp1:0≤rd P 1:=by have:=ZbS P 1;rw [show ((1:Nat):Int) = 1 from rfl] at this;rw [this,List.getD_eq_getElem?_getD,List.getElem?_eq_getElem (by omega)];exact hP0 _ (List.getElem_mem _)
 obtain ⟨w,p,hw,hpr,hcut⟩:=ZdC d hd (ZZ d s0 a b c s4 (frame (Z4 bs bl).1).1) (by omega) (fun r hr => ⟨Zdy d s0 a b c s4 _ r hr,n2 r hr⟩) (rd P 0) (rd P 1) hp0 hp1
 obtain ⟨hdone,hback⟩:=add_back hrb hrm hg ht n3 hg' hw hpr
 have hres:resOf d (Z2f (ZZ d s0 a b c s4 (frame (Z4 bs bl).1).1) w p) = ((ZF d (Z2f (ZZ d s0 a b c s4 (frame (Z4 bs bl).1).1) w p)).1,true):=by unfold resOf;rw [if_pos hdone]
 rw [hres] at hcut
 have hlen:(Z2f (ZZ d s0 a b c s4 (frame (Z4 bs bl).1).1) w p).length≤60:=by
  unfold Z2f
  rw [List.length_append,List.length_take]
  have:=(Z3M d s0 a b c s4 (Z4 bs bl).1).1
  have:(if p = 0 then [] else [Z4T (ZX (ZZ d s0 a b c s4 (frame (Z4 bs bl).1).1) (w:Int)) p]).length≤1:=by split <;> simp
  omega
 have hcd:=Zbq hd hlen
 generalize (ZF d (Z2f (ZZ d s0 a b c s4 (frame (Z4 bs bl).1).1) w p)).1 = cut at hcut hcd hback
 have hcl:=(Z0z hcd).1
 refine Ev.bind hP (Ev.pos (by omega) (Ev.pos (by omega) (Ev.bind hcut ?_)))
 have fin:∀ (M:List S147) (S:Int),M.length≤60→Back rb rm cut M S→(M = dir.map (Z1e d)∧S = st∨M = dir'.map (Z1e (ZF d (ZZ d s0 a b c s4 (frame (Z4 bs bl).1).1)).1)∧S = bs)→Ev (fun k => (Zm.f k cut).bind fun t7 => ((Zg.f k cut t7.2.2.2.2.2.2.2.1).bind fun t8 => ((Zm.f k t8.1).bind fun t9 => ((Zy.f k t8.1 t9.1 t9.2.1 t9.2.2.1 t9.2.2.2.1 t9.2.2.2.2.1 t9.2.2.2.2.2.1 t9.2.2.2.2.2.2.1).bind fun t10 => ((Z04.f k (dir.map (Z1e d)) bs bl).bind fun t11 => (if true = true then (if t7.2.2.2.2.2.2.2.2 = 0 then (if t8.2 = (t7.2.2.2.2.2.2.2.1.length:Int) then (if t9.2.2.2.2.2.2.2.2 = 0 then (if (t9.2.2.2.2.2.2.2.1.length:Int) = 0 then (if t10.2 = true then (if t7.2.2.2.2.2.2.1 = t9.2.2.2.2.2.2.1 then ((Z05.f k t10.1 (dir.map (Z1e d))).bind fun t12 => (if t12 = true then (if t9.2.2.2.2.2.2.1 = st then (some true) else ((Z05.f k t10.1 t11.1).bind fun t13 => (if t13 = true then (some (t9.2.2.2.2.2.2.1 == bs)) else (some false)))) else ((Z05.f k t10.1 t11.1).bind fun t14 => (if t14 = true then (some (t9.2.2.2.2.2.2.1 == bs)) else (some false))))) else (some false)) else (some false)) else (some false)) else (some false)) else (some false)) else (some false)) else (some false))))))) true:=by
  intro M S hM ⟨u0,u1,u2,u3,u4,udir,uraws,e1,e2,e3,e4,e5,e6⟩ hor
  obtain ⟨y1,y2,y3,y4⟩:=e5.small hrm
  have ho:=Z3L rb hrb rm hrm cut (by omega)
  rw [e1] at ho
  have ho2:=Z3L rb hrb rm hrm (ZF cut uraws).1 (by omega)
  have e5':ZL rb rm (ZF cut uraws).1 = (u0,u1,u2,u3,u4,udir,S,[],0):=e5
  rw [e5'] at ho2
  have hm2:=Z96 hrb hrm e5.openIs
  have hs2:=Zao (ZF cut uraws).1 (by omega) u0 u1 u2 u3 u4 udir S (by omega)
  rw [hm2.1,e6] at hs2
  refine Ev.bind ho (Ev.bind (Z2T cut (by omega) uraws (by omega) e3) (Ev.bind ho2 (Ev.bind hs2 (Ev.bind m3 (Ev.pos rfl (Ev.pos rfl (Ev.pos e4 (Ev.pos rfl (Ev.pos rfl (Ev.pos rfl (Ev.pos rfl ?_)))))))))))
  rcases hor with ⟨rfl,rfl⟩ | ⟨hMe,hSe⟩
  ·exact Ev.bind (Z5M (dir.map (Z1e d)) (by omega)) (Ev.pos rfl (Ev.pos rfl (Ev.now _)))
  ·obtain ⟨t12,h12,-⟩:=Zbr M (dir.map (Z1e d)) (by omega)
   have hsame:=Z5M M (by omega)
   rw [←hMe]
   refine Ev.bind h12 (Ev.ite (fun _ => Ev.neg (by dsimp only;omega) (Ev.bind hsame (Ev.pos rfl (Ev.done (by simpa using hSe))))) (fun _ => Ev.bind hsame (Ev.pos rfl (Ev.done (by simpa using hSe)))))
 rcases hback with hback | hback
 ·exact fin _ _ (by rw [List.length_map];omega) hback (.inl ⟨rfl,rfl⟩)
 ·exact fin _ _ (by rw [List.length_map];omega) hback (.inr ⟨rfl,hbst⟩)
end Go.Ep
