/- The pure statement of the law: its plain function answers true. No conditions but those that each statement names. By this repo's programs; comments are taken out. -/
import Derived.Test.YtlmicldpfnmeaaaGreatDoorVFnShelvesP
set_option linter.all false
namespace Go.Ep
open Go.RowKit Go.Proofs.YtlmicldpfnmeaaaGreatDoorW.PrintWords Go.Proofs.YtlmicldpfnmeaaaGreatDoorW.PrintLast Go.Proofs.YtlmicldpfnmeaaaGreatDoorW.PrintMore Go.Ev
def vl (l:List Int):List Int:=l.flatMap fun n => varL n.toNat
theorem vl_cons (x:Int) (l:List Int):vl (x::l) = varL x.toNat++vl l:=rfl
theorem curNum_fwdI {s:ByteArray} {a b x:Int} (h:At s a (varL x.toNat) b) (h0:0≤x) (h1:x≤1000000000):Z06 s a false = (x,s,b,false):=by
 rw [curNum_fwd h (by omega),Int.toNat_of_nonneg h0]
abbrev Man:=List Int×Int×Int×Int×List Int×Bool
def noMan:Man:=([],0,0,0,[],false)
def MDec (x0:ByteArray) (r:Man):Prop:=r = noMan∨∃ segs nx ba bt cf,r = (segs,nx,ba,bt,cf,true)∧Z0N segs nx ba bt cf = (x0,true)
theorem man_parts {segs:List Int} {nx ba bt:Int} {cf:List Int} {s:ByteArray} (h:Z0N segs nx ba bt cf = (s,true)):manOk segs nx ba bt cf = true∧∃ t,unsealT s = (t,true)∧t.size≤20000∧bytesOf t = varL segs.length++(vl segs++(varL nx.toNat++(varL ba.toNat++(varL bt.toNat++(varL cf.length++vl cf))))):=by
 unfold Z0N at h
 by_cases hk:manOk segs nx ba bt cf = true
 ·rw [if_pos hk] at h
  refine ⟨hk,_,unseal_seal h,(seal_unseal (unseal_seal h)).2,?_⟩
  rw [bytesOf_strOfNums]
  ·simp [manNums,vl]
  ·intro x hx
   obtain ⟨n,-,hn⟩:=List.mem_flatMap.1 hx
   exact varL_bytes _ x hn
 ·rw [if_neg hk] at h;simp at h
theorem man_make {segs:List Int} {nx ba bt:Int} {cf:List Int} {s t:ByteArray} (hk:manOk segs nx ba bt cf = true) (hu:unsealT s = (t,true)) (hb:bytesOf t = varL segs.length++(vl segs++(varL nx.toNat++(varL ba.toNat++(varL bt.toNat++(varL cf.length++vl cf)))))):Z0N segs nx ba bt cf = (s,true):=by
 unfold Z0N
 rw [if_pos hk]
 have:strOfNums ((manNums segs nx ba bt cf).flatMap fun n => varL n.toNat) = t:=bytesOf_inj (by
  rw [bytesOf_strOfNums,hb]
  ·simp [manNums,vl]
  ·intro x hx
   obtain ⟨n,-,hn⟩:=List.mem_flatMap.1 hx
   exact varL_bytes _ x hn)
 rw [this]
 exact (seal_unseal hu).1
theorem sman_fin (x0:ByteArray) (segs:List Int) (nx ba bt:Int) (cf:List Int) (hs:segs.length≤1048576) (hc:cf.length≤1048576):To (fun k => (Zf.f k segs nx ba bt cf).bind fun t => if t.2 = true then (if t.1.toList = x0.toList then (some (segs,nx,ba,bt,cf,true)) else (some ([],0,0,0,[],false))) else (some ([],0,0,0,[],false))) (MDec x0):=by
 refine To.bind (To.ev (P:=fun z => z = Z0N segs nx ba bt cf) (Z0E segs nx ba bt cf (by omega) (by omega)) rfl) (fun z ez => ?_)
 refine To.ite (fun q1 => To.ite (fun q2 => To.now (Or.inr ⟨_,_,_,_,_,rfl,?_⟩)) (fun _ => To.now (Or.inl rfl))) (fun _ => To.now (Or.inl rfl))
 rw [←ez]
 exact Prod.ext (toList_inj.1 q2) q1
theorem sman_l1 (x0 s:ByteArray) (hs:s.size≤1048576) (N:Int) (segs:List Int) (hl:segs.length≤1048576) (nx ba bt:Int):∀ (m n:Nat) (cf:List Int) (a:Int) (b:Bool),5 - n≤m→n≤5→cf.length = n→0≤a→a≤s.size →
  To (fun k => Z3.l1 k x0 N (n:Int) s a b segs nx ba bt cf) (MDec x0):=by
 intro m
 induction m with
 | zero =>
  intro n cf a b h1 h2 h3 h4 h5
  refine To.step (fun _ => rfl) ?_
  simp only [Z3.l1]
  refine To.ite (fun _ => To.ite (fun _ => ?_) (fun _ => To.neg (by omega) (sman_fin x0 segs nx ba bt cf hl (by omega)))) (fun _ => ?_)
  ·exact To.bind (To.ev (P:=fun _ => True) (Z0E segs nx ba bt cf (by omega) (by omega)) trivial) (fun _ _ => To.now (Or.inl rfl))
  ·cases b
   ·simpa using sman_fin x0 segs nx ba bt cf hl (by omega)
   ·simp only [if_true]
    exact To.bind (To.ev (P:=fun _ => True) (Z0E segs nx ba bt cf (by omega) (by omega)) trivial) (fun _ _ => To.now (Or.inl rfl))
 | succ m ih =>
  intro n cf a b h1 h2 h3 h4 h5
  refine To.step (fun _ => rfl) ?_
  simp only [Z3.l1]
  refine To.ite (fun _ => To.ite (fun _ => ?_) (fun _ => To.ite (fun hc => ?_) (fun _ => sman_fin x0 segs nx ba bt cf hl (by omega)))) (fun _ => ?_)
  ·exact To.bind (To.ev (P:=fun _ => True) (Z0E segs nx ba bt cf (by omega) (by omega)) trivial) (fun _ _ => To.now (Or.inl rfl))
  ·refine To.bind (To.ev (P:=fun r => r = Z06 s a b) (Z05 s a b (by omega)) rfl) (fun r e => ?_)
   subst e
   have p:=Z0w (s:=s) (a:=a) (bad:=b) h4 h5
   simp only [Z0W,Z4 (show n≤9223372036854775806 by omega)]
   exact To.pos (by omega) (ih (n + 1) _ _ _ (by omega) (by omega) (by simp [h3]) p.1 p.2)
  ·cases b
   ·simpa using sman_fin x0 segs nx ba bt cf hl (by omega)
   ·simp only [if_true]
    exact To.bind (To.ev (P:=fun _ => True) (Z0E segs nx ba bt cf (by omega) (by omega)) trivial) (fun _ _ => To.now (Or.inl rfl))
theorem sman_j1 (x0 s:ByteArray) (hs:s.size≤1048576) (segs:List Int) (hl:segs.length≤1048576) (x1 x2 x3 a:Int) (b:Bool) (h0:0≤a) (h1:a≤s.size):To (fun k => Z3.j1 k x0 s a b segs x1 x2 x3) (MDec x0):=by
 refine To.step (fun _ => rfl) ?_
 simp only [Z3.j1]
 refine To.bind (To.ev (P:=fun r => r.2.1 = s∧0≤r.2.2.1∧r.2.2.1≤(s.size:Int)) (Z05 s a b (by omega)) ⟨Z0W _ _ _,Z0w h0 h1⟩) (fun r1 p1 => ?_)
 obtain ⟨n1,s1,a1,b1⟩:=r1
 obtain ⟨e1,p1,p1'⟩:=p1
 dsimp only at e1 p1 p1'
 subst e1
 refine To.bind (To.ev (P:=fun r => r.2.1 = s1∧0≤r.2.2.1∧r.2.2.1≤(s1.size:Int)) (Z05 s1 a1 b1 (by omega)) ⟨Z0W _ _ _,Z0w p1 p1'⟩) (fun r2 p2 => ?_)
 obtain ⟨n2,s2,a2,b2⟩:=r2
 obtain ⟨e2,p2,p2'⟩:=p2
 dsimp only at e2 p2 p2'
 subst e2
 refine To.bind (To.ev (P:=fun r => r.2.1 = s2∧0≤r.2.2.1∧r.2.2.1≤(s2.size:Int)) (Z05 s2 a2 b2 (by omega)) ⟨Z0W _ _ _,Z0w p2 p2'⟩) (fun r3 p3 => ?_)
 obtain ⟨n3,s3,a3,b3⟩:=r3
 obtain ⟨e3,p3,p3'⟩:=p3
 dsimp only at e3 p3 p3'
 subst e3
 refine To.bind (To.ev (P:=fun r => r.2.1 = s3∧0≤r.2.2.1∧r.2.2.1≤(s3.size:Int)) (Z05 s3 a3 b3 (by omega)) ⟨Z0W _ _ _,Z0w p3 p3'⟩) (fun r4 p4 => ?_)
 obtain ⟨n4,s4,a4,b4⟩:=r4
 obtain ⟨e4,p4,p4'⟩:=p4
 dsimp only at e4 p4 p4'
 subst e4
 exact sman_l1 x0 s4 hs n4 segs hl n1 n2 n3 5 0 [] a4 b4 (by omega) (by omega) rfl p4 p4'
theorem sman_l0 (x0 s:ByteArray) (hs:s.size≤1048576) (N x1 x2 x3:Int):∀ (m n:Nat) (segs:List Int) (a:Int) (b:Bool),9 - n≤m→n≤9→segs.length = n→0≤a→a≤s.size →
  To (fun k => Z3.l0 k x0 N (n:Int) s a b segs x1 x2 x3) (MDec x0):=by
 intro m
 induction m with
 | zero =>
  intro n segs a b h1 h2 h3 h4 h5
  refine To.step (fun _ => rfl) ?_
  simp only [Z3.l0]
  exact To.ite (fun _ => To.ite (fun _ => sman_j1 x0 s hs segs (by omega) x1 x2 x3 a b h4 h5) (fun _ => To.neg (by omega) (sman_j1 x0 s hs segs (by omega) x1 x2 x3 a b h4 h5))) (fun _ => sman_j1 x0 s hs segs (by omega) x1 x2 x3 a b h4 h5)
 | succ m ih =>
  intro n segs a b h1 h2 h3 h4 h5
  refine To.step (fun _ => rfl) ?_
  simp only [Z3.l0]
  refine To.ite (fun _ => To.ite (fun _ => sman_j1 x0 s hs segs (by omega) x1 x2 x3 a b h4 h5) (fun _ => To.ite (fun hc => ?_) (fun _ => sman_j1 x0 s hs segs (by omega) x1 x2 x3 a b h4 h5))) (fun _ => sman_j1 x0 s hs segs (by omega) x1 x2 x3 a b h4 h5)
  refine To.bind (To.ev (P:=fun r => r = Z06 s a b) (Z05 s a b (by omega)) rfl) (fun r e => ?_)
  subst e
  have p:=Z0w (s:=s) (a:=a) (bad:=b) h4 h5
  simp only [Z0W,Z4 (show n≤9223372036854775806 by omega)]
  exact To.pos (by omega) (ih (n + 1) _ _ _ (by omega) (by omega) (by simp [h3]) p.1 p.2)
theorem unseal_small (s:ByteArray):(unsealT s).1.size≤20000:=by
 cases hu:unsealT s with
 | mk t b => cases b with
  | true => exact (seal_unseal hu).2
  | false => unfold unsealT at hu;split at hu <;> simp_all;rw [←hu];exact Nat.zero_le _
theorem spec_ReadManifest_to (s:ByteArray) (hs:s.size≤1048576):To (fun k => Z3.f k s) (MDec s):=by
 unfold Z3.f
 refine To.bind (To.ev (P:=fun r => r = unsealT s) (spec_Unsealed_ev s hs) rfl) (fun r e => ?_)
 subst e
 have hz:=unseal_small s
 refine To.bind (To.ev (P:=fun r => r = _) (Z05 (unsealT s).1 0 (!(unsealT s).2) (by omega)) rfl) (fun r e => ?_)
 subst e
 have p:=Z0w (s:=(unsealT s).1) (a:=0) (bad:=!(unsealT s).2) (by omega) (by omega)
 simp only [Z0W]
 exact sman_l0 s _ (by omega) _ 0 0 0 9 0 [] _ _ (by omega) (by omega) rfl p.1 p.2
theorem sman_fwd1 (x0 s:ByteArray) (hs:s.size≤1048576) (segs:List Int) (hl:segs.length≤1048576) (nx ba bt:Int) (conf:List Int) (hcl:conf.length≤4) (hm:∀ x∈conf,0≤x∧x≤1000000) (ht:Z0N segs nx ba bt conf = (x0,true)):∀ (rest:List Int) (n:Nat) (cf:List Int) (a b:Int),cf++rest = conf→cf.length = n→At s a (vl rest) b →
  Ev (fun k => Z3.l1 k x0 (conf.length:Int) (n:Int) s a false segs nx ba bt cf) (segs,nx,ba,bt,conf,true):=by
 intro rest
 induction rest with
 | nil =>
  intro n cf a b h1 h2 h3
  rw [List.append_nil] at h1
  subst h1
  refine Ev.step (fun _ => rfl) ?_
  simp only [Z3.l1]
  refine Ev.neg (by omega) (Ev.bind (Z0E segs nx ba bt cf (by omega) (by omega)) ?_)
  rw [ht]
  exact Ev.neg (by simp) (Ev.pos rfl (Ev.pos rfl (Ev.now _)))
 | cons x t ih =>
  intro n cf a b h1 h2 h3
  have hlen:cf.length + (t.length + 1) = conf.length:=by rw [←h1];simp
  have hx:=hm x (by rw [←h1];simp)
  rw [vl_cons] at h3
  obtain ⟨q1,q2⟩:=h3.split
  refine Ev.step (fun _ => rfl) ?_
  simp only [Z3.l1,Z4 (show n≤9223372036854775806 by omega)]
  refine Ev.pos (by omega) (Ev.neg (by simp) (Ev.pos (by omega) (Ev.bind (Ev.eq (Z05 s a false (by omega)) (curNum_fwdI q1 hx.1 (by omega))) (Ev.pos (by omega) ?_))))
  exact ih (n + 1) (cf++[x]) _ b (by rw [←h1,List.append_assoc];rfl) (by simp [h2]) q2
theorem sman_fwd0 (x0 s:ByteArray) (hs:s.size≤1048576) (segs:List Int) (hl:segs.length≤8) (hsm:∀ x∈segs,0≤x∧x≤1000000) (nx ba bt:Int) (h1':0≤nx∧nx≤1000000) (h2':0≤ba∧ba≤1000000) (h3':0≤bt∧bt≤1000000) (conf:List Int) (hcl:conf.length≤4) (hm:∀ x∈conf,0≤x∧x≤1000000) (ht:Z0N segs nx ba bt conf = (x0,true)) (x1 x2 x3:Int):∀ (rest:List Int) (n:Nat) (sg:List Int) (a b:Int),sg++rest = segs→sg.length = n→At s a (vl rest++(varL nx.toNat++(varL ba.toNat++(varL bt.toNat++(varL conf.length++vl conf))))) b →
  Ev (fun k => Z3.l0 k x0 (segs.length:Int) (n:Int) s a false sg x1 x2 x3) (segs,nx,ba,bt,conf,true):=by
 intro rest
 induction rest with
 | nil =>
  intro n sg a b h1 h2 h3
  rw [List.append_nil] at h1
  subst h1
  obtain ⟨q1,h3⟩:=(show At s a (varL nx.toNat++(varL ba.toNat++(varL bt.toNat++(varL conf.length++vl conf)))) b from h3).split
  obtain ⟨q2,h3⟩:=h3.split
  obtain ⟨q3,h3⟩:=h3.split
  obtain ⟨q4,h3⟩:=h3.split
  refine Ev.step (fun _ => rfl) ?_
  simp only [Z3.l0]
  refine Ev.neg (by omega) (Ev.step (fun _ => rfl) ?_)
  simp only [Z3.j1]
  refine Ev.bind (Ev.eq (Z05 s a false (by omega)) (curNum_fwdI q1 h1'.1 (by omega))) (Ev.bind (Ev.eq (Z05 s _ false (by omega)) (curNum_fwdI q2 h2'.1 (by omega))) (Ev.bind (Ev.eq (Z05 s _ false (by omega)) (curNum_fwdI q3 h3'.1 (by omega))) (Ev.bind (Ev.eq (Z05 s _ false (by omega)) (curNum_fwd q4 (by omega))) ?_)))
  exact sman_fwd1 x0 s hs sg (by omega) nx ba bt conf hcl hm ht conf 0 [] _ b rfl rfl h3
 | cons x t ih =>
  intro n sg a b h1 h2 h3
  have hlen:sg.length + (t.length + 1) = segs.length:=by rw [←h1];simp
  have hx:=hsm x (by rw [←h1];simp)
  rw [vl_cons,List.append_assoc] at h3
  obtain ⟨q1,q2⟩:=h3.split
  refine Ev.step (fun _ => rfl) ?_
  simp only [Z3.l0,Z4 (show n≤9223372036854775806 by omega)]
  refine Ev.pos (by omega) (Ev.neg (by simp) (Ev.pos (by omega) (Ev.bind (Ev.eq (Z05 s a false (by omega)) (curNum_fwdI q1 hx.1 (by omega))) (Ev.pos (by omega) ?_))))
  exact ih (n + 1) (sg++[x]) _ b (by rw [←h1,List.append_assoc];rfl) (by simp [h2]) q2
theorem spec_ReadManifest_good (s:ByteArray) (hs:s.size≤1048576) (segs:List Int) (nx ba bt:Int) (conf:List Int) (h:Z0N segs nx ba bt conf = (s,true)):Ev (fun k => Z3.f k s) (segs,nx,ba,bt,conf,true):=by
 obtain ⟨hk,t,hu,ht,hb⟩:=man_parts h
 obtain ⟨b1,b2,b3,b4,b5,b6,b7⟩:=Z0b hk
 have hw:=At.whole t
 rw [hb] at hw
 obtain ⟨q1,q2⟩:=hw.split
 unfold Z3.f
 refine Ev.bind (Ev.eq (spec_Unsealed_ev s hs) hu) (Ev.bind (Ev.eq (Z05 t 0 false (by omega)) (curNum_fwd q1 (by omega))) ?_)
 exact sman_fwd0 s t (by omega) segs (by omega) (fun x hx => by have:=b6 x hx;omega) nx ba bt (by omega) (by omega) (by omega) conf (by omega) (fun x hx => by have:=b7 x hx;omega) h 0 0 0 segs 0 [] _ _ rfl rfl q2
theorem eachM1_bad (N i:Int) (s:ByteArray) (a:Int) (l:List Int) (x1 x2 x3:Int) (l4:List Int):To (fun k => Zq.l0 k N i s a true l x1 x2 x3 l4) (fun r => r = (s,a,true,l,x1,x2,x3,l4)):=by
 refine To.step (fun _ => rfl) ?_
 simp only [Zq.l0]
 exact To.ite (fun _ => To.pos (by simp) (To.now rfl)) (fun _ => To.now rfl)
theorem eachM1_loop (s:ByteArray) (hs:s.size≤1000000) (N x1 x2 x3:Int) (l4:List Int):∀ (m:Nat) (i a:Int) (b:Bool) (acc:List Int),0≤a→a≤s.size→(acc.length:Int)≤a + (if b = true then 1 else 0)→(s.size:Int) - a + (if b = true then 0 else 1)≤m→0≤i→i≤2000000000→N≤1000000000 →
  To (fun k => Zq.l0 k N i s a b acc x1 x2 x3 l4) (fun r => r.1 = s∧r.2.2.2.1.length≤1048576∧r.2.2.2.2 = (x1,x2,x3,l4)∧(0≤r.2.1∧r.2.1≤(s.size:Int))∧(r.2.2.1 = false→∃ rest,r.2.2.2.1 = acc++rest∧At s a (vl rest) r.2.1∧(i≤N→i + (rest.length:Int) = N))):=by
 intro m
 induction m with
 | zero =>
  intro i a b acc h0 h1 h2 h3 h4 h5 h6
  obtain rfl:b = true:=by cases b <;> simp_all;omega
  simp only [if_true] at h2
  exact To.mono (eachM1_bad _ _ _ _ _ _ _ _ _) (fun r q => by subst q;exact ⟨rfl,by dsimp only;omega,rfl,⟨h0,h1⟩,fun h => by cases h⟩)
 | succ m ih =>
  intro i a b acc h0 h1 h2 h3 h4 h5 h6
  cases b with
  | true =>
   simp only [if_true] at h2
   exact To.mono (eachM1_bad _ _ _ _ _ _ _ _ _) (fun r q => by subst q;exact ⟨rfl,by dsimp only;omega,rfl,⟨h0,h1⟩,fun h => by cases h⟩)
  | false =>
   simp only [Bool.false_eq_true,if_false] at h2 h3
   refine To.step (fun _ => rfl) ?_
   simp only [Zq.l0]
   refine To.ite (fun c => To.neg (by simp) ?_) (fun c => To.now ⟨rfl,by dsimp only;omega,rfl,⟨h0,h1⟩,fun _ => ⟨[],by simp,At.nil h0 h1,fun h => by simp;omega⟩⟩)
   refine To.bind (P:=fun r => r = (acc++[(Z06 s a false).1],x1,x2,x3,l4,s,(Z06 s a false).2.2.1,(Z06 s a false).2.2.2)) ?_ (fun r e => ?_)
   ·unfold Z1e.f
    refine To.bind (To.ev (P:=fun r => r = Z06 s a false) (ZS s a false (by omega)) rfl) (fun r e => ?_)
    subst e
    simp only [Z0W]
    exact To.pos (by omega) (To.now rfl)
   ·subst e
    dsimp only
    rw [Z9 (by omega) (by omega)]
    have hp:=Z0w (s:=s) (a:=a) (bad:=false) h0 h1
    cases hb:(Z06 s a false).2.2.2 with
    | true => exact To.mono (eachM1_bad _ _ _ _ _ _ _ _ _) (fun r q => by subst q;exact ⟨rfl,by simp;omega,rfl,hp,fun h => by cases h⟩)
    | false =>
     obtain ⟨-,m1,-⟩:=curNum_good' hb
     have m2:=m1.le
     have m3:=varL_pos (Z06 s a false).1.toNat
     refine To.mono (ih (i + 1) _ false _ hp.1 hp.2 (by simp;omega) (by simp;omega) (by omega) (by omega) h6) (fun r q => ⟨q.1,q.2.1,q.2.2.1,q.2.2.2.1,fun h => ?_⟩)
     obtain ⟨rest,e1,e2,e3⟩:=q.2.2.2.2 h
     refine ⟨(Z06 s a false).1::rest,by rw [e1];simp,?_,fun _ => ?_⟩
     ·rw [vl_cons];exact m1.trans e2
     ·have:=e3 (by omega);simp;omega
theorem eachM1_fwd (s:ByteArray) (hs:s.size≤1048576) (x1 x2 x3:Int) (l4:List Int):∀ (rest:List Int) (i:Nat) (acc:List Int) (a b:Int),(∀ x∈rest,0≤x∧x≤1000000)→i + rest.length≤60→acc.length = i→At s a (vl rest) b →
  Ev (fun k => Zq.l0 k ((i + rest.length:Nat):Int) (i:Int) s a false acc x1 x2 x3 l4) (s,b,false,acc++rest,x1,x2,x3,l4):=by
 intro rest
 induction rest with
 | nil =>
  intro i acc a b h1 h2 h3 h4
  refine Ev.step (fun _ => rfl) ?_
  simp only [Zq.l0]
  have:=h4.le
  refine Ev.neg (by simp) (Ev.done ?_)
  simp only [vl,List.flatMap_nil,List.length_nil] at this
  rw [List.append_nil,show a = b by omega]
 | cons x t ih =>
  intro i acc a b h1 h2 h3 h4
  rw [List.length_cons] at h2
  rw [vl_cons] at h4
  obtain ⟨q1,h4⟩:=h4.split
  have hx:=h1 x List.mem_cons_self
  have l1:=q1.le
  refine Ev.step (fun _ => rfl) ?_
  simp only [Zq.l0,Z1e.f,Z4 (show i≤9223372036854775806 by omega)]
  refine Ev.pos (by simp only [List.length_cons];omega) (Ev.neg (by simp) (Ev.bind (a:=(acc++[x],x1,x2,x3,l4,s,a + ((varL x.toNat).length:Int),false)) ?_ ?_))
  ·exact Ev.bind (Ev.eq (ZS s a false (by omega)) (curNum_fwdI q1 hx.1 (by omega))) (Ev.pos (by omega) (Ev.now _))
  ·have:=ih (i + 1) (acc++[x]) _ b (fun y hy => h1 y (List.mem_cons_of_mem _ hy)) (by omega) (by simp [h3]) h4
   rw [show i + 1 + t.length = i + (x::t).length by simp;omega] at this
   exact Ev.eq this (by simp)
theorem eachM2_bad (N i:Int) (s:ByteArray) (a:Int) (l:List Int) (x1 x2 x3:Int) (l4:List Int):To (fun k => Zr.l0 k N i s a true l4 x1 x2 x3 l) (fun r => r = (s,a,true,x1,x2,x3,l,l4)):=by
 refine To.step (fun _ => rfl) ?_
 simp only [Zr.l0]
 exact To.ite (fun _ => To.pos (by simp) (To.now rfl)) (fun _ => To.now rfl)
theorem eachM2_loop (s:ByteArray) (hs:s.size≤1000000) (N x1 x2 x3:Int) (l4:List Int):∀ (m:Nat) (i a:Int) (b:Bool) (acc:List Int),0≤a→a≤s.size→(acc.length:Int)≤a + (if b = true then 1 else 0)→(s.size:Int) - a + (if b = true then 0 else 1)≤m→0≤i→i≤2000000000→N≤1000000000 →
  To (fun k => Zr.l0 k N i s a b l4 x1 x2 x3 acc) (fun r => r.1 = s∧r.2.2.2.2.2.2.1.length≤1048576∧(r.2.2.2.1 = x1∧r.2.2.2.2.1 = x2∧r.2.2.2.2.2.1 = x3∧r.2.2.2.2.2.2.2 = l4)∧(0≤r.2.1∧r.2.1≤(s.size:Int))∧(r.2.2.1 = false→∃ rest,r.2.2.2.2.2.2.1 = acc++rest∧At s a (vl rest) r.2.1∧(i≤N→i + (rest.length:Int) = N))):=by
 intro m
 induction m with
 | zero =>
  intro i a b acc h0 h1 h2 h3 h4 h5 h6
  obtain rfl:b = true:=by cases b <;> simp_all;omega
  simp only [if_true] at h2
  exact To.mono (eachM2_bad _ _ _ _ _ _ _ _ _) (fun r q => by subst q;exact ⟨rfl,by dsimp only;omega,⟨rfl,rfl,rfl,rfl⟩,⟨h0,h1⟩,fun h => by cases h⟩)
 | succ m ih =>
  intro i a b acc h0 h1 h2 h3 h4 h5 h6
  cases b with
  | true =>
   simp only [if_true] at h2
   exact To.mono (eachM2_bad _ _ _ _ _ _ _ _ _) (fun r q => by subst q;exact ⟨rfl,by dsimp only;omega,⟨rfl,rfl,rfl,rfl⟩,⟨h0,h1⟩,fun h => by cases h⟩)
  | false =>
   simp only [Bool.false_eq_true,if_false] at h2 h3
   refine To.step (fun _ => rfl) ?_
   simp only [Zr.l0]
   refine To.ite (fun c => To.neg (by simp) ?_) (fun c => To.now ⟨rfl,by dsimp only;omega,⟨rfl,rfl,rfl,rfl⟩,⟨h0,h1⟩,fun _ => ⟨[],by simp,At.nil h0 h1,fun h => by simp;omega⟩⟩)
   refine To.bind (P:=fun r => r = (x1,x2,x3,acc++[(Z06 s a false).1],l4,s,(Z06 s a false).2.2.1,(Z06 s a false).2.2.2)) ?_ (fun r e => ?_)
   ·unfold Z1d.f
    refine To.bind (To.ev (P:=fun r => r = Z06 s a false) (ZS s a false (by omega)) rfl) (fun r e => ?_)
    subst e
    simp only [Z0W]
    exact To.pos (by omega) (To.now rfl)
   ·subst e
    dsimp only
    rw [Z9 (by omega) (by omega)]
    have hp:=Z0w (s:=s) (a:=a) (bad:=false) h0 h1
    cases hb:(Z06 s a false).2.2.2 with
    | true => exact To.mono (eachM2_bad _ _ _ _ _ _ _ _ _) (fun r q => by subst q;exact ⟨rfl,by simp;omega,⟨rfl,rfl,rfl,rfl⟩,hp,fun h => by cases h⟩)
    | false =>
     obtain ⟨-,m1,-⟩:=curNum_good' hb
     have m2:=m1.le
     have m3:=varL_pos (Z06 s a false).1.toNat
     refine To.mono (ih (i + 1) _ false _ hp.1 hp.2 (by simp;omega) (by simp;omega) (by omega) (by omega) h6) (fun r q => ⟨q.1,q.2.1,q.2.2.1,q.2.2.2.1,fun h => ?_⟩)
     obtain ⟨rest,e1,e2,e3⟩:=q.2.2.2.2 h
     refine ⟨(Z06 s a false).1::rest,by rw [e1];simp,?_,fun _ => ?_⟩
     ·rw [vl_cons];exact m1.trans e2
     ·have:=e3 (by omega);simp;omega
theorem eachM2_fwd (s:ByteArray) (hs:s.size≤1048576) (x1 x2 x3:Int) (l4:List Int):∀ (rest:List Int) (i:Nat) (acc:List Int) (a b:Int),(∀ x∈rest,0≤x∧x≤1000000)→i + rest.length≤60→acc.length = i→At s a (vl rest) b →
  Ev (fun k => Zr.l0 k ((i + rest.length:Nat):Int) (i:Int) s a false l4 x1 x2 x3 acc) (s,b,false,x1,x2,x3,acc++rest,l4):=by
 intro rest
 induction rest with
 | nil =>
  intro i acc a b h1 h2 h3 h4
  refine Ev.step (fun _ => rfl) ?_
  simp only [Zr.l0]
  have:=h4.le
  refine Ev.neg (by simp) (Ev.done ?_)
  simp only [vl,List.flatMap_nil,List.length_nil] at this
  rw [List.append_nil,show a = b by omega]
 | cons x t ih =>
  intro i acc a b h1 h2 h3 h4
  rw [List.length_cons] at h2
  rw [vl_cons] at h4
  obtain ⟨q1,h4⟩:=h4.split
  have hx:=h1 x List.mem_cons_self
  have l1:=q1.le
  refine Ev.step (fun _ => rfl) ?_
  simp only [Zr.l0,Z1d.f,Z4 (show i≤9223372036854775806 by omega)]
  refine Ev.pos (by simp only [List.length_cons];omega) (Ev.neg (by simp) (Ev.bind (a:=(x1,x2,x3,acc++[x],l4,s,a + ((varL x.toNat).length:Int),false)) ?_ ?_))
  ·exact Ev.bind (Ev.eq (ZS s a false (by omega)) (curNum_fwdI q1 hx.1 (by omega))) (Ev.pos (by omega) (Ev.now _))
  ·have:=ih (i + 1) (acc++[x]) _ b (fun y hy => h1 y (List.mem_cons_of_mem _ hy)) (by omega) (by simp [h3]) h4
   rw [show i + 1 + t.length = i + (x::t).length by simp;omega] at this
   exact Ev.eq this (by simp)
theorem impl_ReadManifest_to (s:ByteArray) (hs:s.size≤1000000):To (fun k => Z0P.f k s) (MDec s):=by
 unfold Z0P.f
 refine To.bind (To.ev (P:=fun r => r = unsealT s) (impl_Unsealed_ev s (by omega)) rfl) (fun r e => ?_)
 subst e
 refine To.ite (fun hok => ?_) (fun _ => To.now (Or.inl rfl))
 cases hu:unsealT s with
 | mk t b =>
 rw [hu] at hok
 obtain rfl:b = true:=hok
 dsimp only
 have hz:=(seal_unseal hu).2
 refine To.bind (P:=fun r => r.1 = t∧r.2.2.2.1.length≤1048576∧r.2.2.2.2 = (0,0,0,[])∧(0≤r.2.1∧r.2.1≤(t.size:Int))∧(r.2.2.1 = false→At t 0 (varL r.2.2.2.1.length++vl r.2.2.2.1) r.2.1)) ?_ (fun r p => ?_)
 ·unfold Zq.f
  refine To.bind (To.ev (P:=fun r => r = Z06 t 0 false) (ZS t 0 false (by omega)) rfl) (fun r e => ?_)
  subst e
  simp only [Z0W]
  have hp:=Z0w (s:=t) (a:=0) (bad:=false) (by omega) (by omega)
  have hn:=curNum_nonneg t 0 false
  cases hb:(Z06 t 0 false).2.2.2
  ·refine To.mono (eachM1_loop t (by omega) (Z06 t 0 false).1 0 0 0 [] (t.size + 1) 0 (Z06 t 0 false).2.2.1 false [] hp.1 hp.2 (by simp;omega) (by simp;omega) (by omega) (by omega) hn.2) (fun r q => ⟨q.1,q.2.1,q.2.2.1,q.2.2.2.1,fun h => ?_⟩)
   obtain ⟨rest,e1,e2,e3⟩:=q.2.2.2.2 h
   have e3:=e3 hn.1
   obtain ⟨-,m1,-⟩:=curNum_good' hb
   rw [e1,List.nil_append]
   rw [show rest.length = (Z06 t 0 false).1.toNat by omega]
   exact m1.trans e2
  ·exact To.mono (eachM1_bad _ _ _ _ _ _ _ _ _) (fun r q => by subst q;exact ⟨rfl,by simp,rfl,hp,fun h => by cases h⟩)
 obtain ⟨s',a1,b1,segs,y1,y2,y3,y4⟩:=r
 obtain ⟨p1,p2,p3,p4,p5⟩:=p
 dsimp only at p1 p2 p3 p4 p5 ⊢
 subst p1
 obtain ⟨rfl,rfl,rfl,rfl⟩:y1 = 0∧y2 = 0∧y3 = 0∧y4 = []:=by simpa using p3
 have num:∀ (a:Int) (b:Bool),0≤a→a≤(s'.size:Int)→To (fun k => ZK.f k s' a b) (fun r => r.2.1 = s'∧(0≤r.2.2.1∧r.2.2.1≤(s'.size:Int))∧(r.2.2.2 = false→b = false∧At s' a (varL r.1.toNat) r.2.2.1)):=fun a b h0 h1 =>
  To.ev (ZS s' a b (by omega)) ⟨Z0W _ _ _,Z0w h0 h1,fun h => by obtain ⟨q1,q2,-⟩:=curNum_good' h;exact ⟨q1,q2⟩⟩
 refine To.bind (num a1 b1 p4.1 p4.2) (fun r2 q2 => ?_)
 obtain ⟨nx,s2,a2,b2⟩:=r2
 obtain ⟨h2,q2,q2'⟩:=q2
 dsimp only at h2
 subst h2
 refine To.bind (num a2 b2 q2.1 q2.2) (fun r3 q3 => ?_)
 obtain ⟨ba,s3,a3,b3⟩:=r3
 obtain ⟨h3,q3,q3'⟩:=q3
 dsimp only at h3
 subst h3
 refine To.bind (num a3 b3 q3.1 q3.2) (fun r4 q4 => ?_)
 obtain ⟨bt',s4,a4,b4⟩:=r4
 obtain ⟨h4,q4,q4'⟩:=q4
 dsimp only at h4
 subst h4
 dsimp only at q2 q2' q3 q3' q4 q4' ⊢
 refine To.bind (P:=fun r => r.1 = s4∧r.2.2.2.2.2.2.1.length≤1048576∧(r.2.2.2.1 = nx∧r.2.2.2.2.1 = ba∧r.2.2.2.2.2.1 = bt'∧r.2.2.2.2.2.2.2 = segs)∧(0≤r.2.1∧r.2.1≤(s4.size:Int))∧(r.2.2.1 = false→b4 = false∧At s4 a4 (varL r.2.2.2.2.2.2.1.length++vl r.2.2.2.2.2.2.1) r.2.1)) ?_ (fun r p => ?_)
 ·unfold Zr.f
  refine To.bind (To.ev (P:=fun r => r = Z06 s4 a4 b4) (ZS s4 a4 b4 (by omega)) rfl) (fun r e => ?_)
  subst e
  simp only [Z0W]
  have hp:=Z0w (s:=s4) (a:=a4) (bad:=b4) q4.1 q4.2
  have hn:=curNum_nonneg s4 a4 b4
  cases hb:(Z06 s4 a4 b4).2.2.2
  ·refine To.mono (eachM2_loop s4 (by omega) (Z06 s4 a4 b4).1 nx ba bt' segs (s4.size + 1) 0 (Z06 s4 a4 b4).2.2.1 false [] hp.1 hp.2 (by simp;omega) (by simp;omega) (by omega) (by omega) hn.2) (fun r q => ⟨q.1,q.2.1,q.2.2.1,q.2.2.2.1,fun h => ?_⟩)
   obtain ⟨rest,e1,e2,e3⟩:=q.2.2.2.2 h
   have e3:=e3 hn.1
   obtain ⟨hb4,m1,-⟩:=curNum_good' hb
   refine ⟨hb4,?_⟩
   rw [e1,List.nil_append]
   rw [show rest.length = (Z06 s4 a4 b4).1.toNat by omega]
   exact m1.trans e2
  ·exact To.mono (eachM2_bad _ _ _ _ _ _ _ _ _) (fun r q => by subst q;exact ⟨rfl,by simp,⟨rfl,rfl,rfl,rfl⟩,hp,fun h => by cases h⟩)
 obtain ⟨s5,a5,b5,z1,z2,z3,cf,z4⟩:=r
 obtain ⟨p1',p2',p3',p4',p5'⟩:=p
 dsimp only at p1' p2' p3' p4' p5' ⊢
 obtain ⟨rfl,rfl,rfl,rfl⟩:=p3'
 subst p1'
 refine To.call (P:=fun z => z = ((!b5 && a5 == (s5.size:Int)),s5,a5,b5)) ⟨_,impl_reader_done_eq _ _ _,rfl⟩ (fun z hz => ?_)
 subst hz
 refine To.ite (fun hd => To.bind (To.ev (P:=fun z => z = manOk z4 z1 z2 z3 cf) (impl_ManifestOk_ev z4 z1 z2 z3 cf (by omega) (by omega)) rfl) (fun z hz => ?_)) (fun _ => To.now (Or.inl rfl))
 subst hz
 refine To.ite (fun hk => To.now (Or.inr ⟨_,_,_,_,_,rfl,?_⟩)) (fun _ => To.now (Or.inl rfl))
 simp only [Bool.and_eq_true,Bool.not_eq_true',beq_iff_eq] at hd
 obtain ⟨e4,w5⟩:=p5' hd.1
 obtain ⟨e3,w4⟩:=q4' e4
 obtain ⟨e2,w3⟩:=q3' e3
 obtain ⟨e1,w2⟩:=q2' e2
 have w1:=p5 e1
 have hw:=w1.trans (w2.trans (w3.trans (w4.trans w5)))
 rw [hd.2] at hw
 exact man_make hk hu (by rw [hw.all];simp only [List.append_assoc])
theorem impl_ReadManifest_good (s:ByteArray) (hs:s.size≤1048576) (segs:List Int) (nx ba bt:Int) (conf:List Int) (h:Z0N segs nx ba bt conf = (s,true)):Ev (fun k => Z0P.f k s) (segs,nx,ba,bt,conf,true):=by
 obtain ⟨hk,t,hu,ht,hb⟩:=man_parts h
 obtain ⟨b1,b2,b3,b4,b5,b6,b7⟩:=Z0b hk
 have hw:=At.whole t
 rw [hb] at hw
 obtain ⟨q1,hw⟩:=hw.split
 obtain ⟨q2,hw⟩:=hw.split
 obtain ⟨q3,hw⟩:=hw.split
 obtain ⟨q4,hw⟩:=hw.split
 obtain ⟨q5,hw⟩:=hw.split
 obtain ⟨q6,q7⟩:=hw.split
 unfold Z0P.f Zq.f Zr.f
 refine Ev.bind (Ev.eq (impl_Unsealed_ev s hs) hu) (Ev.pos rfl (Ev.bind (a:=(t,_,false,segs,0,0,0,[])) ?_ (Ev.bind (Ev.eq (ZS t _ false (by omega)) (curNum_fwdI q3 b2.1 (by omega))) (Ev.bind (Ev.eq (ZS t _ false (by omega)) (curNum_fwdI q4 b3.1 (by omega))) (Ev.bind (Ev.eq (ZS t _ false (by omega)) (curNum_fwdI q5 b4.1 (by omega))) (Ev.bind (a:=(t,(t.size:Int),false,nx,ba,bt,conf,segs)) ?_ ?_))))))
 ·refine Ev.bind (Ev.eq (ZS t 0 false (by omega)) (curNum_fwd q1 (by omega))) ?_
  have:=eachM1_fwd t (by omega) 0 0 0 [] segs 0 [] _ _ (fun x hx => by have:=b6 x hx;omega) (by omega) rfl q2
  rw [Nat.zero_add] at this
  exact this
 ·refine Ev.bind (Ev.eq (ZS t _ false (by omega)) (curNum_fwd q6 (by omega))) ?_
  have:=eachM2_fwd t (by omega) nx ba bt segs conf 0 [] _ _ (fun x hx => by have:=b7 x hx;omega) (by omega) rfl q7
  rw [Nat.zero_add] at this
  exact this
 ·refine Ev.call (impl_reader_done_eq _ _ _) (Ev.pos (by simp) (Ev.bind (Ev.eq (impl_ManifestOk_ev segs nx ba bt conf (by omega) (by omega)) hk) (Ev.pos rfl (Ev.now _))))
def RM (s:ByteArray) (r:Man):Prop:=Ev (fun k => Z3.f k s) r∧Ev (fun k => Z0P.f k s) r∧MDec s r
theorem readManifest_both (s:ByteArray) (hs:s.size≤1000000):∃ r,RM s r:=by
 by_cases hex:∃ segs nx ba bt cf,Z0N segs nx ba bt cf = (s,true)
 ·obtain ⟨segs,nx,ba,bt,cf,h⟩:=hex
  exact ⟨_,spec_ReadManifest_good s (by omega) _ _ _ _ _ h,impl_ReadManifest_good s (by omega) _ _ _ _ _ h,Or.inr ⟨_,_,_,_,_,rfl,h⟩⟩
 ·obtain ⟨r,hr,p⟩:=spec_ReadManifest_to s (by omega)
  obtain ⟨r',hr',p'⟩:=impl_ReadManifest_to s hs
  rcases p with rfl | ⟨_,_,_,_,_,-,h⟩
  ·rcases p' with rfl | ⟨_,_,_,_,_,-,h⟩
   ·exact ⟨_,hr,hr',Or.inl rfl⟩
   ·exact absurd ⟨_,_,_,_,_,h⟩ hex
  ·exact absurd ⟨_,_,_,_,_,h⟩ hex
def mul10 (a:Nat) (x:Int):Nat:=10 * a + (x.toNat - 48)
def fold10 (a:Nat) (l:List Int):Nat:=l.foldl mul10 a
theorem fold10_nil (a:Nat):fold10 a [] = a:=rfl
theorem fold10_cons (a:Nat) (x:Int) (t:List Int):fold10 a (x::t) = fold10 (mul10 a x) t:=by unfold fold10;rw [List.foldl_cons]
theorem fold10_snoc (l:List Int) (a:Nat) (x:Int):fold10 a (l++[x]) = mul10 (fold10 a l) x:=by unfold fold10;rw [List.foldl_append];rfl
theorem mul10_dig (a d:Nat):mul10 a ((48 + d:Nat):Int) = 10 * a + d:=by unfold mul10;rw [Int.toNat_natCast];omega
theorem digT_bytes_big {n:Nat} (h:¬ n < 10):bytesOf (digT n) = bytesOf (digT (n / 10))++[((48 + n % 10:Nat):Int)]:=by
 have:=digT_big h ByteArray.empty
 rw [ByteArray.append_empty,ByteArray.append_empty] at this
 rw [this,Z0z,bytesOf_strOfNums _ (by intro x hx;simp at hx;omega)]
theorem digT_bytes_small {n:Nat} (h:n < 10):bytesOf (digT n) = [((48 + n:Nat):Int)]:=by
 rw [digT_small h,bytesOf_strOfNums _ (by intro x hx;simp at hx;omega),Nat.mod_eq_of_lt h]
theorem digT_fold (n:Nat):fold10 0 (bytesOf (digT n)) = n:=by
 induction n using Nat.strongRecOn with
 | ind n ih =>
  by_cases h:n < 10
  ·rw [digT_bytes_small h,fold10_cons,fold10_nil,mul10_dig];omega
  ·rw [digT_bytes_big h,fold10_snoc,ih _ (by omega),mul10_dig];omega
theorem digT_digits (n:Nat):∀ x∈bytesOf (digT n),48≤x∧x≤57:=by
 induction n using Nat.strongRecOn with
 | ind n ih =>
  intro x hx
  by_cases h:n < 10
  ·rw [digT_bytes_small h] at hx;simp at hx;omega
  ·rw [digT_bytes_big h] at hx
   rcases List.mem_append.1 hx with hx | hx
   ·exact ih _ (by omega) x hx
   ·simp at hx;omega
theorem digT_size3 {n:Nat} (h:n≤999):1≤(digT n).size∧(digT n).size≤3:=by
 rw [←Zk]
 by_cases h1:n < 10
 ·rw [digT_bytes_small h1];simp
 by_cases h2:n / 10 < 10
 ·rw [digT_bytes_big h1,digT_bytes_small h2];simp
 ·rw [digT_bytes_big h1,digT_bytes_big h2,digT_bytes_small (by omega)];simp
theorem digT_inj {a b:Nat} (h:digT a = digT b):a = b:=by rw [←digT_fold a,h,digT_fold]
theorem pow10_le {i:Nat} (h:i≤10):10 ^ i≤10000000000:=Nat.pow_le_pow_right (n:=10) (by omega) h
theorem spec_ReadDecimal_step (s:ByteArray) (hs:s.size≤10) {n:Nat} {x:Int} {t:List Int} (h:(bytesOf s).drop n = x::t) {a:Nat} (ha:a < 10 ^ n) (hx:48≤x∧x≤57) {r:Int×Bool} (hr:Ev (fun k => ZF.l0 k s ((mul10 a x:Nat):Int) ((n + 1:Nat):Int)) r):Ev (fun k => ZF.l0 k s (a:Int) (n:Int)) r:=by
 obtain ⟨h1,h2,h3,-⟩:=bytesOf_drop_lt h
 have:=pow10_le (show n≤10 by omega)
 refine Ev.step (fun _ => rfl) ?_
 simp only [ZF.l0,h2,Z4 (show n≤9223372036854775806 by omega)]
 rw [Z9 (n:=10 * (a:Int)) (by omega) (by omega),Z9 (n:=x) (by omega) (by omega),Z9 (n:=10 * (a:Int) + x) (by omega) (by omega),Z9 (n:=10 * (a:Int) + x - 48) (by omega) (by omega)]
 refine Ev.pos (by omega) (Ev.pos (by omega) (Ev.neg (by omega) (Ev.neg (by omega) ?_)))
 rw [show 10 * (a:Int) + x - 48 = ((mul10 a x:Nat):Int) by unfold mul10;omega]
 exact hr
theorem spec_ReadDecimal_loop (s:ByteArray) (hs:s.size≤10):∀ (rest:List Int) (n a:Nat),(bytesOf s).drop n = rest→a < 10 ^ n→n≤10→To (fun k => ZF.l0 k s (a:Int) (n:Int)) (fun _ => True):=by
 intro rest
 induction rest with
 | nil =>
  intro n a h ha hn
  have:=bytesOf_drop_nil h
  have:=pow10_le hn
  refine To.step (fun _ => rfl) ?_
  simp only [ZF.l0]
  refine To.neg (by omega) (To.ite (fun _ => To.now trivial) (fun hc => To.bind (To.ev (P:=fun _ => True) (spec_Decimal_nat a (by omega)) trivial) (fun z _ => To.ite (fun _ => To.now trivial) (fun _ => To.now trivial))))
 | cons x t ih =>
  intro n a h ha hn
  obtain ⟨h1,h2,h3,h4⟩:=bytesOf_drop_lt h
  have hp:=pow10_le hn
  by_cases hx:48≤x∧x≤57
  ·obtain ⟨r,hr,p⟩:=ih (n + 1) (mul10 a x) h3 (by rw [Nat.pow_succ];unfold mul10;omega) (by omega)
   exact To.ev (spec_ReadDecimal_step s hs h ha hx hr) trivial
  ·refine To.step (fun _ => rfl) ?_
   simp only [ZF.l0,h2]
   refine To.pos (by omega) (To.pos (by omega) (To.ite (fun _ => To.now trivial) (fun _ => To.pos (by omega) (To.now trivial))))
theorem spec_ReadDecimal_to (s:ByteArray):To (fun k => ZF.f k s) (fun _ => True):=by
 unfold ZF.f
 exact To.ite (fun _ => To.now trivial) (fun hc => spec_ReadDecimal_loop s (by omega) _ 0 0 rfl (by simp) (by omega))
theorem spec_ReadDecimal_fwd (n:Nat) (hn:n≤999) (s:ByteArray) (hs:s = digT n):∀ (rest:List Int) (i a:Nat),(bytesOf s).drop i = rest→a < 10 ^ i→i≤10→fold10 a rest = n→(∀ x∈rest,48≤x∧x≤57)→Ev (fun k => ZF.l0 k s (a:Int) (i:Int)) ((n:Int),true):=by
 have h3:=digT_size3 hn
 intro rest
 induction rest with
 | nil =>
  intro i a h ha hi hf hd
  have:=bytesOf_drop_nil h
  rw [fold10_nil] at hf
  subst hf
  refine Ev.step (fun _ => rfl) ?_
  simp only [ZF.l0]
  refine Ev.neg (by omega) (Ev.neg (by omega) (Ev.bind (spec_Decimal_nat a (by omega)) (Ev.pos (by rw [hs]) (Ev.now _))))
 | cons x t ih =>
  intro i a h ha hi hf hd
  have hx:=hd x List.mem_cons_self
  obtain ⟨h1,h2,h4,-⟩:=bytesOf_drop_lt h
  rw [←hs] at h3
  exact spec_ReadDecimal_step s (by omega) h ha hx (ih (i + 1) _ h4 (by rw [Nat.pow_succ];unfold mul10;omega) (by omega) hf (fun y hy => hd y (List.mem_cons_of_mem _ hy)))
theorem spec_ReadDecimal_good (n:Nat) (hn:n≤999):Ev (fun k => ZF.f k (digT n)) ((n:Int),true):=by
 have h3:=digT_size3 hn
 unfold ZF.f
 exact Ev.neg (by omega) (spec_ReadDecimal_fwd n hn _ rfl _ 0 0 rfl (by simp) (by omega) (by rw [List.drop_zero,digT_fold]) (by rw [List.drop_zero];exact digT_digits n))
theorem segT_nat {n:Nat} (h:n≤999):segT (n:Int) = (⟨#[103]⟩:ByteArray)++digT n:=by
 unfold segT
 rw [if_pos (Zu.2 (by omega)),Int.toNat_natCast]
theorem segT_size {n:Nat} (h:n≤999):(segT (n:Int)).size = 1 + (digT n).size:=by rw [segT_nat h,size_append];rfl
theorem segT_rest {n:Nat} (h:n≤999):(segT (n:Int)).extract 1 (segT (n:Int)).size = digT n:=bytesOf_inj (by
 rw [bytesOf_dropTo,segT_nat h,Z0z]
 rfl)
theorem segT_inj {a b:Nat} (ha:a≤999) (hb:b≤999) (h:segT (a:Int) = segT (b:Int)):a = b:=by
 have h1:=segT_rest ha
 rw [h,segT_rest hb] at h1
 exact (digT_inj h1).symm
theorem segT_out {n:Int} (h:¬ (0≤n∧n≤999)):segT n = ⟨#[]⟩:=by unfold segT;rw [if_neg (fun e => h (Zu.1 e))]
def segFind (name:ByteArray):Option Nat:=(List.range 1000).find? fun n:Nat => decide (name = segT (n:Int))
theorem segFind_some {name:ByteArray} {n:Nat} (h:segFind name = some n):n≤999∧name = segT (n:Int):=by
 have h1:=List.find?_some (p:=fun n:Nat => decide (name = segT (n:Int))) (l:=List.range 1000) h
 have h2:=List.mem_range.1 (List.mem_of_find?_eq_some (p:=fun n:Nat => decide (name = segT (n:Int))) (l:=List.range 1000) h)
 exact ⟨by omega,of_decide_eq_true h1⟩
theorem segFind_none {name:ByteArray} (h:segFind name = none) (n:Nat) (hn:n≤999):name≠segT (n:Int):=fun e => by
 have:=List.find?_eq_none (p:=fun n:Nat => decide (name = segT (n:Int))) (l:=List.range 1000) |>.1 h n (List.mem_range.2 (by omega))
 exact this (decide_eq_true e)
def segNo (name:ByteArray):Int:=match segFind name with
 | some n => (n:Int)
 | none => -1
theorem segNo_cases (name:ByteArray):(∃ n:Nat,n≤999∧name = segT (n:Int)∧segNo name = n)∨(segNo name = -1∧∀ n:Nat,n≤999→name≠segT (n:Int)):=by
 unfold segNo
 cases hf:segFind name with
 | some m => exact .inl ⟨m,(segFind_some hf).1,(segFind_some hf).2,rfl⟩
 | none => exact .inr ⟨rfl,segFind_none hf⟩
theorem segNo_yes {n:Nat} (h:n≤999):segNo (segT (n:Int)) = n:=by
 rcases segNo_cases (segT (n:Int)) with ⟨m,hm,e,e2⟩ | ⟨-,hno⟩
 ·rw [e2,segT_inj h hm e]
 ·exact absurd rfl (hno n h)
theorem spec_l09Seg_ev (name:ByteArray) (hs:name.size≤1000000):Ev (fun k => spec_l09Seg.f k name) (segNo name):=by
 unfold spec_l09Seg.f
 rcases segNo_cases name with ⟨n,hn,rfl,e⟩ | ⟨e,hno⟩
 ·have h1:=segT_size hn
  have h3:=digT_size3 hn
  rw [e,segT_rest hn]
  refine Ev.neg (by omega) (Ev.pos (by omega) (Ev.bind (spec_ReadDecimal_good n hn) (Ev.pos rfl (Ev.bind (Z15 n) (Ev.pos rfl (Ev.now _))))))
 ·rw [e]
  refine Ev.ite (fun _ => Ev.now _) (fun hc => Ev.pos (by omega) ?_)
  obtain ⟨r,hr,-⟩:=spec_ReadDecimal_to (name.extract 1 name.size)
  refine Ev.bind hr (Ev.ite (fun _ => Ev.bind (Z15 r.1) (Ev.ite (fun h => ?_) (fun _ => Ev.now _))) (fun _ => Ev.now _))
  exfalso
  have h:=toList_inj.1 h
  by_cases hr1:0≤r.1∧r.1≤999
  ·obtain ⟨m,hm⟩:=Int.eq_ofNat_of_zero_le hr1.1
   rw [hm] at h
   exact hno m (by omega) h.symm
  ·rw [segT_out hr1] at h
   rw [←h] at hc
   exact hc (by decide)
theorem decFrom_snoc (b:UInt8) (d:Nat) (hd:Lib.digitVal b = some d):∀ (l:List UInt8) (acc a:Nat),Lib.decFrom acc l = some a→Lib.decFrom acc (l++[b]) = some (a * 10 + d)
 | [],acc,a,h => by
  simp only [Lib.decFrom,Option.some.injEq] at h
  subst h
  simp [Lib.decFrom,hd]
 | c::t,acc,a,h => by
  simp only [Lib.decFrom,List.cons_append] at h ⊢
  cases hc:Lib.digitVal c with
  | none => rw [hc] at h;cases h
  | some e => rw [hc] at h;exact decFrom_snoc b d hd t _ a h
theorem digitVal_dig {n:Nat} (h:n < 10):Lib.digitVal (UInt8.ofNat (48 + n)) = some n:=by
 unfold Lib.digitVal
 have e:(UInt8.ofNat (48 + n)).toNat = 48 + n:=by rw [UInt8.toNat_ofNat'];omega
 rw [e,if_pos (by omega)]
 congr 1;omega
theorem decFrom_digits (n:Nat):Lib.decFrom 0 (Lib.decDigits n) = some n:=by
 induction n using Nat.strongRecOn with
 | ind n ih =>
  by_cases h:n < 10
  ·rw [digits_small h];simp only [Lib.decFrom,digitVal_dig h,Nat.zero_mul,Nat.zero_add]
  ·rw [digits_big h,decFrom_snoc _ _ (digitVal_dig (by omega)) _ _ _ (ih _ (by omega))]
   congr 1;omega
theorem digits_head (n:Nat):∃ b t,Lib.decDigits n = b::t∧48≤b.toNat∧b.toNat≤57:=by
 induction n using Nat.strongRecOn with
 | ind n ih =>
  by_cases h:n < 10
  ·refine ⟨_,[],digits_small h,?_⟩
   rw [UInt8.toNat_ofNat'];omega
  ·obtain ⟨b,t,e,hb⟩:=ih (n / 10) (by omega)
   exact ⟨b,t++[UInt8.ofNat (48 + n % 10)],by rw [digits_big h,e];rfl,hb⟩
theorem atoi_digits (n:Nat):Lib.atoi (Lib.decDigits n) = some (n:Int):=by
 obtain ⟨b,t,e,h1,h2⟩:=digits_head n
 have hd:=decFrom_digits n
 rw [e] at hd ⊢
 have n1:(b == 45) = false:=by
  rw [beq_eq_false_iff_ne]
  intro e
  subst e
  simp at h1
 have n2:(b == 43) = false:=by
  rw [beq_eq_false_iff_ne]
  intro e
  subst e
  simp at h1
 simp only [Lib.atoi,n1,n2,Bool.false_eq_true,if_false,Lib.decNat,List.isEmpty_cons,hd,Option.map_some]
theorem impl_ReadDecimal_some (s:ByteArray) (hs:s.size≤18):∃ r,impl_ReadDecimal.f s = some r:=by
 unfold impl_ReadDecimal.f strconv_Atoi.f atoiO
 rw [if_pos hs]
 cases h:Lib.atoi s.data.toList with
 | none => exact ⟨_,rfl⟩
 | some n =>
  have hb:=Lib.atoi_bound h (by rw [data_length];omega)
  dsimp only
  rw [Option.bind_some,if_pos rfl]
  unfold impl_Decimal.f
  rw [if_pos (by omega),if_pos (by omega),Option.bind_some]
  split
  ·rw [Z0d,Option.bind_some]
   split
   ·exact ⟨_,rfl⟩
   ·exact ⟨_,rfl⟩
  ·exact ⟨_,rfl⟩
theorem impl_ReadDecimal_good (n:Nat) (hn:n≤999):impl_ReadDecimal.f (digT n) = some ((n:Int),true):=by
 have h3:=digT_size3 hn
 unfold impl_ReadDecimal.f strconv_Atoi.f atoiO
 rw [if_pos (by omega)]
 have:Lib.atoi (digT n).data.toList = some (n:Int):=by
  rw [show (digT n).data.toList = Lib.decDigits n from rfl,atoi_digits]
 rw [this]
 dsimp only
 rw [Option.bind_some,if_pos rfl]
 unfold impl_Decimal.f
 rw [if_pos (by omega),if_pos (by omega),Option.bind_some,itoa_nat,if_pos rfl,Z0d,Option.bind_some,if_pos (Zu.2 (by omega))]
theorem cutG (name:ByteArray):strings_CutPrefix.f name (⟨#[103]⟩:ByteArray) = some (if name.extract 0 1 = ⟨#[103]⟩ then (name.extract 1 name.size,true) else (name,false)):=by
 have hz:(⟨#[103]⟩:ByteArray).size = 1:=rfl
 unfold strings_CutPrefix.f Z0p.f Z0o.f
 by_cases h:name.size≥1
 ·rw [hz,if_pos (by omega),if_pos (by omega),if_pos (by omega),Option.bind_some]
  by_cases e:name.extract 0 1 = ⟨#[103]⟩
  ·rw [if_pos e]
   rw [if_pos (by show ((name.extract 0 1).toList == _) = true;rw [e];simp),if_pos (by omega),if_pos (by omega)]
   rfl
  ·rw [if_neg e]
   rw [if_neg (by show ¬ ((name.extract 0 1).toList == _) = true;rw [beq_iff_eq,toList_inj];exact e)]
   rfl
 ·have hn:name.size = 0:=by omega
  have e:¬ name.extract 0 1 = ⟨#[103]⟩:=by
   intro e
   have:(name.extract 0 1).size = 1:=by rw [e];rfl
   rw [ByteArray.size_extract] at this
   omega
  rw [hz,if_neg (by omega),Option.bind_some,if_neg e]
  rfl
theorem impl_isSegName_eq (name:ByteArray) (hs:name.size≤18):impl_isSegName.f name = some (decide (0≤segNo name)):=by
 unfold impl_isSegName.f
 rw [cutG,Option.bind_some]
 rcases segNo_cases name with ⟨n,hn,rfl,e⟩ | ⟨e,hno⟩
 ·have hx:(segT (n:Int)).extract 0 1 = ⟨#[103]⟩:=bytesOf_inj (by
   rw [bytesOf_extract,segT_nat hn,Z0z];rfl)
  rw [if_pos hx,segT_rest hn]
  dsimp only
  rw [impl_ReadDecimal_good n hn,Option.bind_some,if_pos rfl,if_pos rfl,Z0O,Option.bind_some,e]
  simp
 ·rw [e]
  have hd:decide ((0:Int)≤-1) = false:=rfl
  rw [hd]
  split
  ·rename_i hx
   have hz:name.size≥1:=by
    have:(name.extract 0 1).size = 1:=by rw [hx];rfl
    rw [ByteArray.size_extract] at this
    omega
   dsimp only
   obtain ⟨r,hr⟩:=impl_ReadDecimal_some (name.extract 1 name.size) (by rw [ByteArray.size_extract];omega)
   rw [hr,Option.bind_some,if_pos rfl]
   split
   ·rw [Z0O,Option.bind_some]
    refine congrArg some ?_
    rw [beq_eq_false_iff_ne]
    intro h
    have h:=toList_inj.1 h
    by_cases hr1:0≤r.1∧r.1≤999
    ·obtain ⟨m,hm⟩:=Int.eq_ofNat_of_zero_le hr1.1
     rw [hm] at h
     exact hno m (by omega) h.symm
    ·rw [segT_out hr1] at h
     rw [←h] at hz
     exact absurd hz (by decide)
   ·rfl
  ·dsimp only
   obtain ⟨r,hr⟩:=impl_ReadDecimal_some name hs
   rw [hr,Option.bind_some,if_neg (by simp)]
theorem spec_FileAt_ev (l:List S122) (hd:Z0B l = true) (key:ByteArray):Ev (fun k => spec_FileAt.f k l key) (ZD key l,stands (Ze key) l):=by
 obtain ⟨hl,hu⟩:=diskOk_up hd
 unfold spec_FileAt.f ZD
 refine Ev.bind (spec_l03At_ev l (by omega) hu key) (Ev.bind (spec_DiskOk_ev l (by omega)) ?_)
 rw [hd]
 refine Ev.pos rfl ?_
 unfold placeAt
 cases hs:stands (Ze key) l
 ·exact Ev.pos (by simp) (Ev.done (by simp))
 ·obtain ⟨x,hx,-⟩:=stands_at hs
  obtain ⟨h1,-⟩:=List.getElem?_eq_some_iff.1 hx
  rw [if_pos rfl,if_pos rfl]
  exact Ev.neg (by omega) (Ev.pos (by omega) (Ev.pos (by omega) (Ev.now _)))
theorem filesIn_mem:∀ (l:List S122) (p:Option ByteArray),filesIn p l = true→∀ x∈l,(1≤x.f0.size∧x.f0.size≤12)∧x.f1.size≤20000
 | [],_,_,x,hx => by cases hx
 | y::t,p,h,x,hx => by
  simp only [filesIn,Bool.and_eq_true,decide_eq_true_iff] at h
  obtain ⟨h1,h2,-,h4⟩:=h
  rcases List.mem_cons.1 hx with rfl | hx
  ·have:=Zu.1 h1;omega
  ·exact filesIn_mem t _ h4 x hx
theorem diskOk_mem {l:List S122} (h:Z0B l = true):∀ x∈l,(1≤x.f0.size∧x.f0.size≤12)∧x.f1.size≤20000:=by
 simp only [Z0B,Bool.and_eq_true] at h
 exact filesIn_mem l none h.2
theorem textAt_size {l:List S122} (h:Z0B l = true) (key:ByteArray):(ZD key l).size≤20000:=by
 unfold ZD
 split
 ·rename_i hs
  obtain ⟨x,hx,-⟩:=stands_at hs
  obtain ⟨h1,h2⟩:=List.getElem?_eq_some_iff.1 hx
  rw [rdT122_get h1] at hx
  injection hx with hx
  rw [hx]
  exact (diskOk_mem h x (List.mem_of_getElem? (by rw [List.getElem?_eq_getElem h1,h2]))).2
 ·exact Nat.zero_le _
theorem idxF_loop (s0 s1:ByteArray) (xs:List Int) (hx:xs.length≤1048576):∀ (rest:List Int) (n:Nat),xs.drop n = rest→To (fun k => Zy.l0 k xs (xs.length:Int) (n:Int) s0 s1) (fun r => r.2 = (s0,s1)∧decide (r.1≥0) = rest.any fun x => decide (segT x = s0)):=by
 intro rest
 induction rest with
 | nil =>
  intro n h
  have:=ZA h
  refine To.step (fun _ => rfl) ?_
  simp only [Zy.l0]
  exact To.neg (by omega) (To.now ⟨rfl,by simp⟩)
 | cons x t ih =>
  intro n h
  obtain ⟨h1,-,h3⟩:=Zg h
  refine To.step (fun _ => rfl) ?_
  simp only [Zy.l0,drop_rd h,Z4 (show n≤9223372036854775806 by omega)]
  refine To.pos (by omega) (To.pos (by omega) (To.pos (by omega) (To.call (P:=fun r => r = ((segT x).toList == s0.toList,s0,s1)) ⟨_,by unfold impl_cleaning_c1.f;rw [Z0O];rfl,rfl⟩ (fun r e => ?_))))
  subst e
  dsimp only
  refine To.ite (fun hc => To.now ⟨rfl,?_⟩) (fun hc => To.mono (ih (n + 1) h3) (fun r q => ⟨q.1,by rw [q.2,List.any_cons,decide_eq_false (fun e => hc (by rw [e];simp)),Bool.false_or]⟩))
  rw [List.any_cons,decide_eq_true (toList_inj.1 (by simpa using hc)),Bool.true_or,decide_eq_true (by dsimp only;omega)]
theorem containsF_ev (s0 s1:ByteArray) (xs:List Int) (hx:xs.length≤1048576):Ev (fun k => Z0n.f k xs s0 s1) (xs.any (fun x => decide (segT x = s0)),s0,s1):=by
 obtain ⟨r,hr,h1,h2⟩:=idxF_loop s0 s1 xs hx xs 0 rfl
 unfold Z0n.f Zy.f
 refine Ev.bind hr (Ev.done ?_)
 rw [h2,h1]
def dropB (segs:List Int) (f:S122):Bool:=decide (0≤segNo f.f0) && !segs.contains (segNo f.f0)
def dropRaw (f:S122):S119:=⟨4,f.f0,⟨#[]⟩,⟨#[]⟩⟩
def dropsOf (segs:List Int) (l:List S122):List S119:=(l.filter (dropB segs)).map dropRaw
theorem dropsOf_cons (segs:List Int) (x:S122) (t:List S122):dropsOf segs (x::t) = (if dropB segs x = true then [dropRaw x] else [])++dropsOf segs t:=by
 unfold dropsOf
 rw [List.filter_cons]
 split <;> rfl
theorem any_contains {segs:List Int} (hs:∀ x∈segs,0≤x∧x≤999) {name:ByteArray} (hn:0≤segNo name):(segs.any fun x => decide (segT x = name)) = segs.contains (segNo name):=by
 rcases segNo_cases name with ⟨n,h1,rfl,e⟩ | ⟨e,-⟩
 ·rw [e,Bool.eq_iff_iff,List.any_eq_true,List.contains_iff_mem]
  constructor
  ·rintro ⟨x,hx,hd⟩
   have hb:=hs x hx
   obtain ⟨m,rfl⟩:=Int.eq_ofNat_of_zero_le hb.1
   have:=segT_inj (by omega) h1 (of_decide_eq_true hd)
   rw [←this];exact hx
  ·intro h
   exact ⟨_,h,decide_eq_true rfl⟩
 ·omega
theorem impl_cleaning_loop (l:List S122) (hd:Z0B l = true) (segs:List Int) (hl:segs.length≤8) (hs:∀ x∈segs,0≤x∧x≤999) (x1 x2 x3:Int) (x4:List Int):∀ (rest:List S122) (n:Nat) (acc:List S119),l.drop n = rest→acc.length≤n + 1→Ev (fun k => Z0g.l0 k acc l (l.length:Int) (n:Int) segs x1 x2 x3 x4) (acc++dropsOf segs rest):=by
 have hll:=(diskOk_up hd).1
 intro rest
 induction rest with
 | nil =>
  intro n acc h ha
  have:=ZA h
  refine Ev.step (fun _ => rfl) ?_
  simp only [Z0g.l0]
  exact Ev.neg (by omega) (Ev.done (by simp [dropsOf]))
 | cons x t ih =>
  intro n acc h ha
  obtain ⟨h1,-,h3⟩:=Zg h
  have hm:=diskOk_mem hd x (List.mem_of_mem_drop (h ▸ List.mem_cons_self))
  refine Ev.step (fun _ => rfl) ?_
  simp only [Z0g.l0,rdT122_drop h,Z4 (show n≤9223372036854775806 by omega)]
  refine Ev.pos (by omega) (Ev.pos (by omega) (Ev.pos (by omega) (Ev.call (impl_isSegName_eq x.f0 (by omega)) (Ev.ite (fun hc => ?_) (fun hc => ?_)))))
  ·have hc:=of_decide_eq_true hc
   refine Ev.bind (containsF_ev x.f0 x.f1 segs (by omega)) ?_
   rw [any_contains hs hc]
   refine Ev.ite (fun hi => Ev.eq (ih (n + 1) acc h3 (by omega)) ?_) (fun hi => Ev.pos (by omega) (Ev.eq (ih (n + 1) _ h3 (by simp;omega)) ?_))
   ·rw [dropsOf_cons,if_neg (by unfold dropB;simp only [Bool.and_eq_true,Bool.not_eq_true'];intro e;dsimp only at hi;rw [hi] at e;exact absurd e.2 (by simp))];simp
   ·rw [dropsOf_cons,if_pos (by unfold dropB;rw [decide_eq_true hc,Bool.true_and];dsimp only at hi;rw [Bool.eq_false_iff.2 hi];rfl)];simp [dropRaw]
  ·refine Ev.eq (ih (n + 1) acc h3 (by omega)) ?_
   rw [dropsOf_cons,if_neg (by unfold dropB;rw [Bool.eq_false_iff.2 hc];simp)];simp
def newDrop (l:List S122):List S119:=if stands (Ze ⟨#[109,43]⟩) l = true then [⟨4,⟨#[109,43]⟩,⟨#[]⟩,⟨#[]⟩⟩] else []
theorem impl_cleaning_ev (l:List S122) (hd:Z0B l = true) (segs:List Int) (hl:segs.length≤8) (hs:∀ x∈segs,0≤x∧x≤999) (x1 x2 x3:Int) (x4:List Int):Ev (fun k => Z0g.f k l segs x1 x2 x3 x4) (newDrop l++dropsOf segs l):=by
 unfold Z0g.f newDrop
 refine Ev.bind (impl_FileAt_ev l hd _) ?_
 cases h:stands (Ze ⟨#[109,43]⟩) l
 ·exact Ev.neg (by simp) (Ev.eq (impl_cleaning_loop l hd segs hl hs x1 x2 x3 x4 l 0 [] rfl (by simp)) (by simp))
 ·exact Ev.pos rfl (Ev.pos (by omega) (Ev.eq (impl_cleaning_loop l hd segs hl hs x1 x2 x3 x4 l 0 _ rfl (by simp)) (by simp)))
def endOn (rb:ByteArray→Int×List S162×Bool):Int→List ByteArray→Int
 | a,[] => a
 | a,c::t => if (rb c).2.2 = true then endOn rb (a + ((frame c).1.size:Int)) t else a
def goodT (rb:ByteArray→Int×List S162×Bool):List ByteArray→List ByteArray
 | [] => []
 | c::t => if (rb c).2.2 = true then c::goodT rb t else []
def frSum:Int→List ByteArray→Int
 | a,[] => a
 | a,c::t => frSum (a + ((frame c).1.size:Int)) t
theorem endOn_good (rb:ByteArray→Int×List S162×Bool):∀ (l:List ByteArray) (a:Int),endOn rb a l = frSum a (goodT rb l)
 | [],_ => rfl
 | c::t,a => by
  rw [endOn,goodT]
  split
  ·rw [frSum,endOn_good rb t]
  ·rfl
theorem goodT_sub (rb:ByteArray→Int×List S162×Bool):∀ (l:List ByteArray),(goodT rb l).length≤l.length∧∀ c∈goodT rb l,c∈l
 | [] => ⟨Nat.le_refl _,fun c h => h⟩
 | c::t => by
  have ih:=goodT_sub rb t
  rw [goodT]
  split
  ·exact ⟨by simp only [List.length_cons];omega,fun d hd => by rcases List.mem_cons.1 hd with rfl | hd;exact List.mem_cons_self;exact List.mem_cons_of_mem _ (ih.2 d hd)⟩
  ·exact ⟨Nat.zero_le _,fun d hd => by cases hd⟩
theorem scanOn_texts (rb:ByteArray→Int×List S162×Bool) (seg:Int):∀ (l:List ByteArray) (a:Int) (r:List S145×List ByteArray×Int),(scanOn rb seg a l r).2.1 = r.2.1++goodT rb l
 | [],a,r => by simp [scanOn,goodT]
 | c::t,a,r => by
  rw [scanOn,goodT]
  split
  ·rw [scanOn_texts rb seg t];simp
  ·simp
theorem frSum_ge:∀ (l:List ByteArray) (a:Int),a≤frSum a l∧frSum a l≤a + 9009 * (l.length:Int)
 | [],a => by simp [frSum]
 | c::t,a => by
  have:=frame_le8 c
  have:=frSum_ge t (a + ((frame c).1.size:Int))
  rw [frSum,List.length_cons]
  omega
theorem impl_batchesOf_loop2 (rb:ByteArray→Int×List S162×Bool) (hrb:∀ c,c.size≤9000→RB c (rb c)) (list:List ByteArray) (hl:list.length≤20000) (hc:∀ c∈list,c.size≤9000):∀ (rest:List ByteArray) (n:Nat) (a:Int) (acc:List S113),list.drop n = rest→acc.length = n→0≤a→a≤9009 * (n:Int) →
  Ev (fun k => ZT.l0 k acc a list (list.length:Int) (n:Int)) (acc++piecesOf rb a rest,endOn rb a rest):=by
 intro rest
 induction rest with
 | nil =>
  intro n a acc h ha h0 h1
  have:=ZA h
  refine Ev.step (fun _ => rfl) ?_
  simp only [ZT.l0]
  exact Ev.neg (by omega) (Ev.done (by simp [piecesOf,endOn]))
 | cons x r ih =>
  intro n a acc h ha h0 h1
  obtain ⟨h2,-,h3⟩:=Zg h
  have hm:=hc x (List.mem_of_mem_drop (h ▸ List.mem_cons_self))
  have hf:=frame_le8 x
  obtain ⟨-,q2,q3⟩:=hrb x hm
  refine Ev.step (fun _ => rfl) ?_
  simp only [ZT.l0,rdOf_drop h,Z4 (show n≤9223372036854775806 by omega)]
  refine Ev.pos (by omega) (Ev.pos (by omega) (Ev.pos (by omega) (Ev.bind q2 ?_)))
  rw [piecesOf,endOn]
  refine Ev.ite (fun c => ?_) (fun c => Ev.done (by rw [if_neg c,if_neg c];simp))
  rw [if_pos c,if_pos c]
  refine Ev.bind (impl_Frame_ev x (by omega)) ?_
  rw [Z9 (n:=a + ((frame x).1.size:Int)) (by omega) (by omega),Z9 (n:=a + ((frame x).1.size:Int) - (x.size:Int)) (by omega) (by omega)]
  refine Ev.pos (by omega) (Ev.eq (ih (n + 1) (a + ((frame x).1.size:Int)) _ h3 (by simp [ha]) (by omega) (by omega)) ?_)
  simp
theorem impl_batchesOf_ev (rb:ByteArray→Int×List S162×Bool) (hrb:∀ c,c.size≤9000→RB c (rb c)) (s:ByteArray):Ev (fun k => ZT.f k s) (piecesOf rb 0 (ZY s).1,endOn rb 0 (ZY s).1):=by
 unfold ZT.f
 obtain ⟨u1,u2⟩:=unframe_bounds s
 exact Ev.bind (impl_Unframe_evB s) (Ev.eq (impl_batchesOf_loop2 rb hrb _ u1 u2 _ 0 0 [] rfl rfl (by omega) (by omega)) (by simp))
theorem unfStep_six {s:ByteArray} {a b:Int} {c:ByteArray} (h:Z0F s a = some (c,b)):a + 6≤b:=by
 unfold Z0F at h
 split at h
 ·cases h
 split at h
 ·cases h
 split at h
 ·rename_i h1 h2 h3
  simp only [Option.some.injEq,Prod.mk.injEq] at h
  obtain ⟨rfl,rfl⟩:=h
  have hr:Zi s a = ((Zi s a).1,(Zi s a).2.1,true):=by
   have:(Zi s a).2.2 = true:=by cases hb:(Zi s a).2.2 <;> simp_all
   rw [←this]
  obtain ⟨p1,p2,p3,p4,p5,p6,-,-⟩:=readVar_true hr
  have h4:=h3.1
  unfold frame at h4
  split at h4
  ·rename_i h5
   have h5:=Zu.1 h5
   rw [ByteArray.size_extract] at h5
   omega
  ·simp at h4
 ·cases h
theorem unfr_six (s:ByteArray):∀ (m:Nat) (acc:List ByteArray) (a:Int),6 * (acc.length:Int)≤a→6 * ((unfr s m acc a).1.length:Int)≤(unfr s m acc a).2
 | 0,acc,a,h => h
 | m + 1,acc,a,h => by
  rw [unfr]
  cases hs:Z0F s a with
  | none => exact h
  | some x =>
   obtain ⟨c,b⟩:=x
   have:=unfStep_six hs
   exact unfr_six s m (acc++[c]) b (by simp only [List.length_append,List.length_singleton];omega)
theorem unframe_few (s:ByteArray):(ZY s).1.length≤3334:=by
 unfold ZY
 split
 ·simp
 ·obtain ⟨⟨-,h1⟩,-,-⟩:=unfr_bounds s (s.size + 1) [] 0 (by omega) (by omega) (by simp) (fun c hc => by cases hc)
  have:=unfr_six s (s.size + 1) [] 0 (by simp)
  omega
theorem unfr_acc (s:ByteArray):∀ (m:Nat) (acc:List ByteArray) (a:Int),∃ r,(unfr s m acc a).1 = acc++r
 | 0,acc,a => ⟨[],by rw [unfr,List.append_nil]⟩
 | m + 1,acc,a => by
  rw [unfr]
  cases Z0F s a with
  | none => exact ⟨[],by simp⟩
  | some x =>
   obtain ⟨r,hr⟩:=unfr_acc s m (acc++[x.1]) x.2
   exact ⟨x.1::r,by dsimp only;rw [hr];simp⟩
abbrev RBf:=ByteArray→Int×List S162×Bool
def Z1a (rb:RBf) (d:List S122) (n:Int):List S145×List ByteArray×Int:=scanOn rb n 0 (ZY (ZD (segT n) d)).1 ([],[],-1)
def segEnd (rb:RBf) (d:List S122) (n:Int):Int:=endOn rb 0 (ZY (ZD (segT n) d)).1
theorem segScan_len (rb:RBf) (hrb:∀ c,c.size≤9000→RB c (rb c)) (d:List S122) (n:Int):(Z1a rb d n).1.length≤200040∧(Z1a rb d n).2.1.length≤3334:=by
 have h:=scanOn_len rb (fun c h => (hrb c h).2.2) n (ZY (ZD (segT n) d)).1 0 ([],[],-1) (unframe_bounds _).2
 have:=unframe_few (ZD (segT n) d)
 unfold Z1a
 simp only [List.length_nil,Nat.zero_add] at h
 omega
theorem segEnd_bounds (rb:RBf) (d:List S122) (n:Int):0≤segEnd rb d n∧segEnd rb d n≤1000000000:=by
 unfold segEnd
 rw [endOn_good]
 have:=frSum_ge (goodT rb (ZY (ZD (segT n) d)).1) 0
 have:=(goodT_sub rb (ZY (ZD (segT n) d)).1).1
 have:=unframe_few (ZD (segT n) d)
 omega
def openOn (rb:RBf) (d:List S122):List Int→List S145→Int→Option (List S145×Int)
 | [],sp,st => some (sp,st)
 | n::t,sp,st => if segEnd rb d n < ((ZD (segT n) d).size:Int)∧t≠[] then none else openOn rb d t (sp++(Z1a rb d n).1) (mx st (Z1a rb d n).2.2)
def endOf (rb:RBf) (d:List S122):List Int→Int→Int
 | [],e => e
 | n::t,_ => endOf rb d t (segEnd rb d n)
abbrev SLoad:=List Int×Int×Int×Int×List Int×List S145×Int×Int×Int
def noLoad (c:Int):SLoad:=([],0,0,0,[],[],0,0,c)
theorem spec_l09Load_l2 (rb:RBf) (d:List S122) (segs:List Int) (m1 m2 m3:Int) (m4 s0:List Int) (s1 s2 s3:Int) (s4:List Int) (dir:List S145) (st:Int) (i:Nat) (hi:i < segs.length) (hsl:segs.length≤8) (text:ByteArray) (sp:List S145) (hsp:sp.length≤200040) (hdir:dir.length≤2000000) (texts:List ByteArray) (htl:texts.length≤20000) (hts:∀ c∈texts,c.size≤9000) (stamp:Int) (r:SLoad):∀ (rest:List ByteArray) (n:Nat) (e:Int),texts.drop n = rest→0≤e→e≤9009 * (n:Int) →
  (if frSum e rest < (text.size:Int)∧i + 1 < segs.length then noLoad 4 = r else Ev (fun k => Z5.l1 k (frSum e rest) ((i + 1:Nat):Int) d segs m1 m2 m3 m4 s0 s1 s2 s3 s4 (sp.foldl layS dir) (mx st stamp)) r) →
  Ev (fun k => Z5.l2 k e (i:Int) text sp texts stamp (n:Int) d segs m1 m2 m3 m4 s0 s1 s2 s3 s4 dir st) r:=by
 intro rest
 induction rest with
 | nil =>
  intro n e h h0 h1 hr
  have:=ZA h
  rw [frSum] at hr
  have fin:∀ b:Bool,(b = true↔e < (text.size:Int)∧i + 1 < segs.length)→Ev (fun k => Z5.j4 k e (i:Int) sp stamp b d segs m1 m2 m3 m4 s0 s1 s2 s3 s4 dir st) r:=by
   intro b hb
   refine Ev.step (fun _ => rfl) ?_
   simp only [Z5.j4]
   refine Ev.ite (fun hc => ?_) (fun hc => ?_)
   ·rw [if_pos (hb.1 hc)] at hr
    exact Ev.done hr
   ·rw [if_neg (fun x => hc (hb.2 x))] at hr
    refine Ev.bind (show Ev (fun k => Zd.f k dir sp) (sp.foldl layS dir) by
     unfold Zd.f
     simp only [Option.bind_some,List.nil_append]
     exact Ev.pos (by simp;omega) (spec_l08More_l0 sp (by omega) sp 0 dir rfl (by omega))) ?_
    rw [Z4 (show i≤9223372036854775806 by omega)]
    unfold mx at hr
    refine Ev.ite (fun h5 => ?_) (fun h5 => ?_)
    ·rw [if_pos (show st < stamp by omega)] at hr;exact hr
    ·rw [if_neg (show ¬ st < stamp by omega)] at hr;exact hr
  refine Ev.step (fun _ => rfl) ?_
  simp only [Z5.l2,Z4 (show i≤9223372036854775806 by omega)]
  refine Ev.neg (by omega) (Ev.ite (fun hc => fin _ ?_) (fun hc => fin _ ?_))
  ·rw [decide_eq_true_iff];omega
  ·simp;omega
 | cons x t ih =>
  intro n e h h0 h1 hr
  obtain ⟨h2,-,h3⟩:=Zg h
  have hm:=hts x (List.mem_of_mem_drop (h ▸ List.mem_cons_self))
  have hf:=frame_le8 x
  rw [frSum] at hr
  refine Ev.step (fun _ => rfl) ?_
  simp only [Z5.l2,rdOf_drop h,Z4 (show n≤9223372036854775806 by omega)]
  refine Ev.pos (by omega) (Ev.pos (by omega) (Ev.bind (spec_Frame_ev x (by omega)) ?_))
  rw [Z9 (by omega) (by omega)]
  exact ih (n + 1) _ h3 (by omega) (by omega) hr
theorem spec_l09Load_l1 (rb:RBf) (hrb:∀ c,c.size≤9000→RB c (rb c)) (d:List S122) (hd:Z0B d = true) (segs:List Int) (hsl:segs.length≤8) (m1 m2 m3:Int) (m4:List Int):∀ (rest:List Int) (n:Nat) (e:Int) (sp:List S145) (st:Int),segs.drop n = rest→n≤segs.length→sp.length≤200040 * n →
  Ev (fun k => Z5.l1 k e (n:Int) d segs m1 m2 m3 m4 segs m1 m2 m3 m4 (sp.foldl layS []) st) (match openOn rb d rest sp st with
   | none => noLoad 4
   | some (sp',st') => if dirOk (sp'.foldl layS []) = true then (segs,m1,m2,m3,m4,sp'.foldl layS [],st',endOf rb d rest e,0) else noLoad 4):=by
 obtain ⟨hdl,hdu⟩:=diskOk_up hd
 intro rest
 induction rest with
 | nil =>
  intro n e sp st h hn hl
  have:=ZA h
  have hll:=lay_len sp []
  simp only [List.length_nil] at hll
  refine Ev.step (fun _ => rfl) ?_
  simp only [Z5.l1,openOn,endOf]
  refine Ev.neg (by omega) (Ev.bind (spec_DirOk_ev _ (by omega)) ?_)
  exact Ev.ite (fun hc => Ev.done (by rw [if_pos hc])) (fun hc => Ev.done (by rw [if_neg hc];rfl))
 | cons x t ih =>
  intro n e sp st h hn hl
  obtain ⟨h1,-,h3⟩:=Zg h
  have hll:=lay_len sp []
  simp only [List.length_nil] at hll
  obtain ⟨l1,l2⟩:=segScan_len rb hrb d x
  have ht:=textAt_size hd (segT x)
  refine Ev.step (fun _ => rfl) ?_
  simp only [Z5.l1,drop_rd h]
  refine Ev.pos (by omega) (Ev.pos (by omega) (Ev.bind (Z15 x) (Ev.bind (spec_l03Text_ev d (by omega) hdu _) (Ev.bind (spec_ScanSeg_ev rb (fun c h => ⟨(hrb c h).1,(hrb c h).2.2⟩) (ZD (segT x) d) x) ?_))))
  have e2:(Z1a rb d x).2.1 = goodT rb (ZY (ZD (segT x) d)).1:=by unfold Z1a;rw [scanOn_texts];simp
  have e3:frSum 0 (Z1a rb d x).2.1 = segEnd rb d x:=by rw [e2,segEnd,endOn_good]
  refine spec_l09Load_l2 rb d segs m1 m2 m3 m4 segs m1 m2 m3 m4 (sp.foldl layS []) st n h1 hsl _ (Z1a rb d x).1 (by omega) (by omega) (Z1a rb d x).2.1 (by omega) (fun c hc => ?_) (Z1a rb d x).2.2 _ (Z1a rb d x).2.1 0 0 rfl (by omega) (by omega) ?_
  ·rw [e2] at hc
   exact (unframe_bounds _).2 c ((goodT_sub rb _).2 c hc)
  ·rw [e3,openOn,endOf]
   have hne:t≠[]↔n + 1 < segs.length:=by
    rw [←h3]
    constructor
    ·intro hh
     rcases Nat.lt_or_ge (n + 1) segs.length with h5 | h5
     ·exact h5
     ·exact absurd (List.drop_eq_nil_of_le h5) hh
    ·intro hh he
     have:=ZA he;omega
   by_cases hc:segEnd rb d x < ((ZD (segT x) d).size:Int)∧t≠[]
   ·rw [if_pos ⟨hc.1,hne.1 hc.2⟩,if_pos hc]
   ·rw [if_neg (fun h5 => hc ⟨h5.1,hne.2 h5.2⟩),if_neg hc,←List.foldl_append]
    exact ih (n + 1) (segEnd rb d x) (sp++(Z1a rb d x).1) _ h3 (by omega) (by rw [List.length_append];omega)
theorem spec_l09Load_l0 (d:List S122) (hd:Z0B d = true) (segs:List Int) (m1 m2 m3:Int) (m4:List Int) (hsl:segs.length≤8) (r:SLoad) (hr:segs.all (fun n => stands (Ze (segT n)) d) = true→Ev (fun k => Z5.l1 k 0 0 d segs m1 m2 m3 m4 segs m1 m2 m3 m4 [] m2) r) (hn:segs.all (fun n => stands (Ze (segT n)) d) = false→r = noLoad 3):∀ (rest:List Int) (n:Nat),segs.drop n = rest→segs.all (fun n => stands (Ze (segT n)) d) = rest.all (fun n => stands (Ze (segT n)) d) →
  Ev (fun k => Z5.l0 k (n:Int) d segs m1 m2 m3 m4 segs m1 m2 m3 m4 m2) r:=by
 obtain ⟨hdl,hdu⟩:=diskOk_up hd
 intro rest
 induction rest with
 | nil =>
  intro n h ha
  have:=ZA h
  refine Ev.step (fun _ => rfl) ?_
  simp only [Z5.l0]
  exact Ev.neg (by omega) (hr (by rw [ha];rfl))
 | cons x t ih =>
  intro n h ha
  obtain ⟨h1,-,h3⟩:=Zg h
  refine Ev.step (fun _ => rfl) ?_
  simp only [Z5.l0,drop_rd h,Z4 (show n≤9223372036854775806 by omega)]
  refine Ev.pos (by omega) (Ev.pos (by omega) (Ev.bind (Z15 x) (Ev.bind (spec_l03At_ev d (by omega) hdu _) ?_)))
  unfold placeAt
  rw [List.all_cons] at ha
  cases hs:stands (Ze (segT x)) d
  ·rw [hs,Bool.false_and] at ha
   exact Ev.pos (by simp) (Ev.done (hn ha).symm)
  ·rw [hs,Bool.true_and] at ha
   exact Ev.neg (by simp) (ih (n + 1) h3 ha)
abbrev RMf:=ByteArray→Man
def manAt (rm:RMf) (d:List S122):Man:=rm (ZD ⟨#[109]⟩ d)
def Z0H (rb:RBf) (rm:RMf) (d:List S122):SLoad :=
 if Z0B d = true then
  if (stands (Ze ⟨#[109]⟩) d && (manAt rm d).2.2.2.2.2) = true then
   if (manAt rm d).1.all (fun n => stands (Ze (segT n)) d) = true then
    match openOn rb d (manAt rm d).1 [] (manAt rm d).2.2.1 with
    | none => noLoad 4
    | some (sp',st') => if dirOk (sp'.foldl layS []) = true then ((manAt rm d).1,(manAt rm d).2.1,(manAt rm d).2.2.1,(manAt rm d).2.2.2.1,(manAt rm d).2.2.2.2.1,sp'.foldl layS [],st',endOf rb d (manAt rm d).1 0,0) else noLoad 4
   else noLoad 3
  else noLoad 2
 else noLoad 1
theorem man_good {rm:RMf} (hrm:∀ s,s.size≤1000000→RM s (rm s)) {d:List S122} (hd:Z0B d = true) (h:(manAt rm d).2.2.2.2.2 = true):manOk (manAt rm d).1 (manAt rm d).2.1 (manAt rm d).2.2.1 (manAt rm d).2.2.2.1 (manAt rm d).2.2.2.2.1 = true:=by
 have ht:=textAt_size hd ⟨#[109]⟩
 obtain ⟨-,-,hm⟩:=hrm (ZD ⟨#[109]⟩ d) (by omega)
 rcases hm with hm | ⟨_,_,_,_,_,hm,hk⟩
 ·unfold manAt at h;rw [hm] at h;cases h
 ·unfold manAt;rw [hm];exact (man_parts hk).1
theorem spec_l09Load_ev (rb:RBf) (hrb:∀ c,c.size≤9000→RB c (rb c)) (rm:RMf) (hrm:∀ s,s.size≤1000000→RM s (rm s)) (d:List S122) (hl:d.length≤1048576):Ev (fun k => Z5.f k d) (Z0H rb rm d):=by
 unfold Z5.f Z0H
 refine Ev.bind (spec_DiskOk_ev d hl) ?_
 cases hd:Z0B d
 ·exact Ev.neg (by simp) (Ev.done (by simp [noLoad]))
 have ht:=textAt_size hd ⟨#[109]⟩
 refine Ev.pos rfl (Ev.bind (spec_FileAt_ev d hd _) (Ev.bind (hrm (ZD ⟨#[109]⟩ d) (by omega)).1 ?_))
 rw [if_pos rfl]
 change Ev (fun k => if stands (Ze ⟨#[109]⟩) d = true then Z5.j0 k (!(manAt rm d).2.2.2.2.2) d (manAt rm d).1 (manAt rm d).2.1 (manAt rm d).2.2.1 (manAt rm d).2.2.2.1 (manAt rm d).2.2.2.2.1 else Z5.j0 k true d (manAt rm d).1 (manAt rm d).2.1 (manAt rm d).2.2.1 (manAt rm d).2.2.2.1 (manAt rm d).2.2.2.2.1) _
 cases hs:stands (Ze ⟨#[109]⟩) d
 ·refine Ev.neg (by simp) (Ev.step (fun _ => rfl) ?_)
  simp only [Z5.j0]
  exact Ev.pos trivial (Ev.done (by simp [noLoad]))
 refine Ev.pos rfl (Ev.step (fun _ => rfl) ?_)
 simp only [Z5.j0]
 cases hm:(manAt rm d).2.2.2.2.2
 ·exact Ev.pos (by simp) (Ev.done (by simp [noLoad]))
 have hk:=man_good hrm hd hm
 obtain ⟨b1,-,-,-,-,-,-⟩:=Z0b hk
 rw [Bool.true_and,if_pos rfl]
 refine Ev.neg (by simp) (spec_l09Load_l0 d hd (manAt rm d).1 _ _ _ _ (by omega) _ (fun ha => ?_) (fun ha => ?_) (manAt rm d).1 0 rfl rfl)
 ·rw [if_pos ha]
  exact spec_l09Load_l1 rb hrb d hd (manAt rm d).1 (by omega) _ _ _ _ (manAt rm d).1 0 0 [] _ rfl (by omega) (by simp)
 ·rw [if_neg (by rw [ha];simp)]
abbrev OS:=List Int×Int×Int×Int×List Int×List S145×Int×List S119×Int
def noShelf (c:Int):OS:=([],0,0,0,[],[],0,[],c)
def lastOf (segs:List Int):Int:=rd segs ((segs.length:Int) - 1)
def putRaw (d:List S122) (n e:Int):List S119:=if e < ((ZD (segT n) d).size:Int) then [⟨1,segT n,⟨#[]⟩,(ZD (segT n) d).extract 0 e.toNat⟩] else []
def ZU (rb:RBf) (rm:RMf) (d:List S122):OS :=
 if (Z0H rb rm d).2.2.2.2.2.2.2.2 = 0 then
  ((Z0H rb rm d).1,(Z0H rb rm d).2.1,(Z0H rb rm d).2.2.1,(Z0H rb rm d).2.2.2.1,(Z0H rb rm d).2.2.2.2.1,(Z0H rb rm d).2.2.2.2.2.1,(Z0H rb rm d).2.2.2.2.2.2.1,newDrop d++dropsOf (Z0H rb rm d).1 d++putRaw d (lastOf (Z0H rb rm d).1) (Z0H rb rm d).2.2.2.2.2.2.2.1,0)
 else noShelf (Z0H rb rm d).2.2.2.2.2.2.2.2
theorem endOf_bounds (rb:RBf) (d:List S122):∀ (l:List Int) (e:Int),0≤e→e≤1000000000→0≤endOf rb d l e∧endOf rb d l e≤1000000000
 | [],e,h0,h1 => ⟨h0,h1⟩
 | n::t,e,_,_ => by
  have:=segEnd_bounds rb d n
  rw [endOf]
  exact endOf_bounds rb d t _ (by omega) (by omega)
theorem load_good {rb:RBf} {rm:RMf} (hrm:∀ s,s.size≤1000000→RM s (rm s)) {d:List S122} (h:(Z0H rb rm d).2.2.2.2.2.2.2.2 = 0):Z0B d = true∧manOk (Z0H rb rm d).1 (Z0H rb rm d).2.1 (Z0H rb rm d).2.2.1 (Z0H rb rm d).2.2.2.1 (Z0H rb rm d).2.2.2.2.1 = true∧dirOk (Z0H rb rm d).2.2.2.2.2.1 = true∧0≤(Z0H rb rm d).2.2.2.2.2.2.2.1∧(Z0H rb rm d).2.2.2.2.2.2.2.1≤1000000000:=by
 unfold Z0H at h ⊢
 split at h
 ·rename_i hd
  rw [if_pos hd]
  split at h
  ·rename_i hs
   rw [if_pos hs]
   split at h
   ·rename_i ha
    rw [if_pos ha]
    split at h
    ·simp [noLoad] at h
    ·rename_i sp' st' ho
     split at h
     ·rename_i hk
      rw [if_pos hk]
      simp only [Bool.and_eq_true] at hs
      have:=endOf_bounds rb d (manAt rm d).1 0 (by omega) (by omega)
      exact ⟨hd,man_good hrm hd hs.2,hk,this.1,this.2⟩
     ·simp [noLoad] at h
   ·simp [noLoad] at h
  ·simp [noLoad] at h
 ·simp [noLoad] at h
theorem spec_OpenShelf_loop (d:List S122) (hd:Z0B d = true) (e:Int) (he0:0≤e) (he1:e≤1000000000) (segs:List Int) (hs1:1≤segs.length) (hs8:segs.length≤8) (m1 m2 m3:Int) (m4:List Int) (dir:List S145) (st:Int):∀ (rest:List S122) (n:Nat) (acc:List S119),d.drop n = rest→n≤d.length→acc.length≤n + 1 →
  Ev (fun k => Zj.l0 k e acc (n:Int) d segs m1 m2 m3 m4 dir st) (segs,m1,m2,m3,m4,dir,st,acc++dropsOf segs rest++putRaw d (lastOf segs) e,0):=by
 obtain ⟨hdl,hdu⟩:=diskOk_up hd
 intro rest
 induction rest with
 | nil =>
  intro n acc h hn ha
  have:=ZA h
  refine Ev.step (fun _ => rfl) ?_
  simp only [Zj.l0]
  rw [Z9 (n:=(segs.length:Int) - 1) (by omega) (by omega)]
  change Ev (fun k => if (n:Int) < (d.length:Int) then _ else if 0≤(segs.length:Int) - 1 then if (segs.length:Int) - 1 < (segs.length:Int) then (Z0a.f k (lastOf segs)).bind _ else none else none) _
  refine Ev.neg (by omega) (Ev.pos (by omega) (Ev.pos (by omega) (Ev.bind (Z15 _) (Ev.bind (spec_l03Text_ev d (by omega) hdu _) ?_))))
  unfold putRaw
  refine Ev.ite (fun hc => Ev.pos (by omega) (Ev.pos (by unfold lastOf at *;omega) (Ev.pos (by omega) (Ev.done ?_)))) (fun hc => Ev.done ?_)
  ·rw [if_pos hc];simp [dropsOf]
  ·rw [if_neg hc];simp [dropsOf]
 | cons x t ih =>
  intro n acc h hn ha
  obtain ⟨h1,-,h3⟩:=Zg h
  have hm:=diskOk_mem hd x (List.mem_of_mem_drop (h ▸ List.mem_cons_self))
  refine Ev.step (fun _ => rfl) ?_
  simp only [Zj.l0,rdT122_drop h,Z4 (show n≤9223372036854775806 by omega)]
  refine Ev.pos (by omega) (Ev.pos (by omega) (Ev.bind (spec_l09Seg_ev x.f0 (by omega)) (Ev.ite (fun hc => ?_) (fun hc => ?_))))
  ·refine Ev.bind (spec_l09In_ev segs _ (by omega)) (Ev.ite (fun hi => Ev.eq (ih (n + 1) acc h3 (by omega) (by omega)) ?_) (fun hi => Ev.pos (by omega) (Ev.eq (ih (n + 1) _ h3 (by omega) (by simp;omega)) ?_)))
   ·rw [dropsOf_cons,if_neg (by unfold dropB;simp only [Bool.and_eq_true,Bool.not_eq_true'];intro e;rw [hi] at e;exact absurd e.2 (by simp))];simp
   ·rw [dropsOf_cons,if_pos (by unfold dropB;rw [decide_eq_true hc,Bool.true_and,Bool.eq_false_iff.2 hi];rfl)];simp [dropRaw]
  ·refine Ev.eq (ih (n + 1) acc h3 (by omega) (by omega)) ?_
   rw [dropsOf_cons,if_neg (by unfold dropB;rw [decide_eq_false hc];simp)];simp
theorem spec_OpenShelf_ev (rb:RBf) (hrb:∀ c,c.size≤9000→RB c (rb c)) (rm:RMf) (hrm:∀ s,s.size≤1000000→RM s (rm s)) (d:List S122) (hl:d.length≤1048576):Ev (fun k => Zj.f k d) (ZU rb rm d):=by
 unfold Zj.f ZU
 refine Ev.bind (spec_l09Load_ev rb hrb rm hrm d hl) (Ev.call rfl ?_)
 refine Ev.ite (fun hc => ?_) (fun hc => Ev.done (by rw [if_neg hc];rfl))
 rw [if_pos hc]
 obtain ⟨g1,g2,g3,g4,g5⟩:=load_good hrm hc
 obtain ⟨hdl,hdu⟩:=diskOk_up g1
 obtain ⟨b1,-,-,-,-,-,-⟩:=Z0b g2
 refine Ev.bind (spec_l03At_ev d hl hdu _) ?_
 unfold placeAt newDrop
 have go:∀ acc:List S119,acc.length≤1→Ev (fun k => Zj.j0 k (Z0H rb rm d).2.2.2.2.2.2.2.1 acc d (Z0H rb rm d).1 (Z0H rb rm d).2.1 (Z0H rb rm d).2.2.1 (Z0H rb rm d).2.2.2.1 (Z0H rb rm d).2.2.2.2.1 (Z0H rb rm d).2.2.2.2.2.1 (Z0H rb rm d).2.2.2.2.2.2.1) ((Z0H rb rm d).1,(Z0H rb rm d).2.1,(Z0H rb rm d).2.2.1,(Z0H rb rm d).2.2.2.1,(Z0H rb rm d).2.2.2.2.1,(Z0H rb rm d).2.2.2.2.2.1,(Z0H rb rm d).2.2.2.2.2.2.1,acc++dropsOf (Z0H rb rm d).1 d++putRaw d (lastOf (Z0H rb rm d).1) (Z0H rb rm d).2.2.2.2.2.2.2.1,0):=fun acc ha => by
  refine Ev.step (fun _ => rfl) ?_
  simp only [Zj.j0]
  exact spec_OpenShelf_loop d g1 _ g4 g5 _ (by omega) (by omega) _ _ _ _ _ _ d 0 acc rfl (by omega) (by omega)
 cases hs:stands (Ze ⟨#[109,43]⟩) d
 ·exact Ev.neg (by simp) (Ev.eq (go [] (by simp)) (by simp))
 ·exact Ev.pos (by simp) (Ev.pos (by simp) (Ev.eq (go _ (by simp)) (by simp)))
def tailPut (rb:RBf) (d:List S122):List Int→List S119
 | [] => []
 | [n] => putRaw d n (segEnd rb d n)
 | _::m::t => tailPut rb d (m::t)
theorem tailPut_last (rb:RBf) (d:List S122):∀ (l:List Int) (e:Int),l≠[]→tailPut rb d l = putRaw d (lastOf l) (endOf rb d l e)
 | [],_,h => absurd rfl h
 | [n],e,_ => by simp [tailPut,lastOf,endOf,rd]
 | a::m::t,e,_ => by
  rw [tailPut,endOf,tailPut_last rb d (m::t) (segEnd rb d a) (by simp)]
  congr 1
  unfold lastOf rd
  simp only [List.length_cons]
  rw [show (((t.length + 1 + 1:Nat):Int) - 1).toNat = t.length + 1 by omega,show (((t.length + 1:Nat):Int) - 1).toNat = t.length by omega,List.getD_cons_succ]
theorem impl_OpenShelf_l1 (rb:RBf) (hrb:∀ c,c.size≤9000→RB c (rb c)) (d:List S122) (hd:Z0B d = true) (segs:List Int) (hsl:segs.length≤8) (nx ba bt:Int) (cf:List Int):∀ (rest:List Int) (n:Nat) (raws:List S119) (sp:List S145) (st:Int),segs.drop n = rest→n≤segs.length→raws.length + rest.length≤1000→sp.length≤200040 * n →
  Ev (fun k => Zm.l1 k raws sp segs (segs.length:Int) (n:Int) d [] 0 0 0 [] [] 0 nx ba bt cf nx ba bt [] st) (match openOn rb d rest sp st with
   | none => noShelf 4
   | some (sp',st') => if dirOk (sp'.foldl layS []) = true then (segs,nx,ba,bt,cf,sp'.foldl layS [],st',raws++tailPut rb d rest,0) else noShelf 4):=by
 intro rest
 induction rest with
 | nil =>
  intro n raws sp st h hn hr hl
  have:=ZA h
  refine Ev.step (fun _ => rfl) ?_
  simp only [Zm.l1,openOn,tailPut]
  refine Ev.neg (by omega) (Ev.bind (impl_DirMore_ev [] sp (by simp only [List.length_nil];omega)) ?_)
  unfold dirMore
  rw [if_pos (show dirOk ([]:List S145) = true from rfl)]
  cases hk:dirOk (sp.foldl layS [])
  ·exact Ev.neg (by simp) (Ev.done (by simp [noShelf]))
  ·exact Ev.pos (by simp) (Ev.done (by simp))
 | cons x t ih =>
  intro n raws sp st h hn hr hl
  obtain ⟨h1,-,h3⟩:=Zg h
  obtain ⟨l1,l2⟩:=segScan_len rb hrb d x
  have ht:=textAt_size hd (segT x)
  have hb:=segEnd_bounds rb d x
  have hne:t≠[]↔n + 1 < segs.length:=by
   rw [←h3]
   constructor
   ·intro hh
    rcases Nat.lt_or_ge (n + 1) segs.length with h5 | h5
    ·exact h5
    ·exact absurd (List.drop_eq_nil_of_le h5) hh
   ·intro hh he
    have:=ZA he;omega
  refine Ev.step (fun _ => rfl) ?_
  simp only [Zm.l1,drop_rd h,Z4 (show n≤9223372036854775806 by omega)]
  rw [Z9 (n:=(segs.length:Int) - 1) (by omega) (by omega)]
  refine Ev.pos (by omega) (Ev.pos (by omega) (Ev.pos (by omega) (Ev.call (Z0O x) (Ev.bind (impl_FileAt_ev d hd _) (Ev.bind (impl_ScanSeg_ev rb hrb (ZD (segT x) d) x) (Ev.bind (impl_batchesOf_ev rb hrb (ZD (segT x) d)) ?_))))))
  have hS:scanOn rb x 0 (ZY (ZD (segT x) d)).1 ([],[],-1) = Z1a rb d x:=rfl
  have hE:endOn rb 0 (ZY (ZD (segT x) d)).1 = segEnd rb d x:=rfl
  rw [hS,hE]
  dsimp only
  rw [List.length_cons] at hr
  have go:∀ raws':List S119,raws'.length + t.length≤1000→Ev (fun k => Zm.l1 k raws' (sp++(Z1a rb d x).1) segs (segs.length:Int) ((n + 1:Nat):Int) d [] 0 0 0 [] [] 0 nx ba bt cf nx ba bt [] (mx st (Z1a rb d x).2.2)) (match openOn rb d t (sp++(Z1a rb d x).1) (mx st (Z1a rb d x).2.2) with
   | none => noShelf 4
   | some (sp',st') => if dirOk (sp'.foldl layS []) = true then (segs,nx,ba,bt,cf,sp'.foldl layS [],st',raws'++tailPut rb d t,0) else noShelf 4):=fun raws' hr' => ih (n + 1) raws' _ _ h3 (by omega) hr' (by rw [List.length_append];omega)
  rw [openOn]
  by_cases hc:segEnd rb d x < ((ZD (segT x) d).size:Int)
  ·by_cases hcn:t≠[]
   ·rw [if_pos ⟨hc,hcn⟩]
    have:=hne.1 hcn
    exact Ev.pos hc (Ev.pos (by omega) (Ev.now _))
   ·have hcn:=Decidable.not_not.1 hcn
    have:¬ n + 1 < segs.length:=fun h5 => hne.2 h5 hcn
    rw [if_neg (fun h5 => h5.2 hcn)]
    refine Ev.pos hc (Ev.neg (by omega) (Ev.pos hc (Ev.call (Z0O x) (Ev.pos (by omega) (Ev.pos (by omega) (Ev.pos (by omega) (Ev.pos (by omega) (Ev.eq (go _ (by simp;omega)) ?_))))))))
    subst hcn
    simp only [openOn,tailPut,List.append_nil,List.append_assoc]
    unfold putRaw
    rw [if_pos hc]
  ·rw [if_neg (fun h5 => hc h5.1)]
   refine Ev.neg hc (Ev.neg hc (Ev.pos (by omega) (Ev.eq (go raws (by omega)) ?_)))
   have e:tailPut rb d (x::t) = tailPut rb d t:=by
    cases t with
    | nil => simp only [tailPut];unfold putRaw;rw [if_neg hc]
    | cons y t => rw [tailPut]
   rw [e]
theorem impl_OpenShelf_l0 (d:List S122) (hd:Z0B d = true) (segs:List Int) (nx ba bt:Int) (cf:List Int) (hsl:segs.length≤8) (r:OS) (hr:segs.all (fun n => stands (Ze (segT n)) d) = true→Ev (fun k => (Z0g.f k d segs nx ba bt cf).bind fun t5 => Zm.l1 k t5 [] segs (segs.length:Int) 0 d [] 0 0 0 [] [] 0 nx ba bt cf nx ba bt [] ba) r) (hn:segs.all (fun n => stands (Ze (segT n)) d) = false→r = noShelf 3):∀ (rest:List Int) (n:Nat),segs.drop n = rest→segs.all (fun n => stands (Ze (segT n)) d) = rest.all (fun n => stands (Ze (segT n)) d) →
  Ev (fun k => Zm.l0 k segs (segs.length:Int) (n:Int) d [] 0 0 0 [] [] 0 nx ba bt cf) r:=by
 intro rest
 induction rest with
 | nil =>
  intro n h ha
  have:=ZA h
  refine Ev.step (fun _ => rfl) ?_
  simp only [Zm.l0]
  exact Ev.neg (by omega) (hr (by rw [ha];rfl))
 | cons x t ih =>
  intro n h ha
  obtain ⟨h1,-,h3⟩:=Zg h
  refine Ev.step (fun _ => rfl) ?_
  simp only [Zm.l0,drop_rd h,Z4 (show n≤9223372036854775806 by omega)]
  refine Ev.pos (by omega) (Ev.pos (by omega) (Ev.pos (by omega) (Ev.call (Z0O x) (Ev.bind (impl_FileAt_ev d hd _) ?_))))
  rw [List.all_cons] at ha
  dsimp only
  cases hs:stands (Ze (segT x)) d
  ·rw [hs,Bool.false_and] at ha
   exact Ev.neg (by simp) (Ev.done (hn ha).symm)
  ·rw [hs,Bool.true_and] at ha
   exact Ev.pos rfl (ih (n + 1) h3 ha)
theorem dropsOf_len (segs:List Int) (l:List S122):(dropsOf segs l).length≤l.length:=by
 unfold dropsOf
 rw [List.length_map]
 exact List.length_filter_le _ _
theorem newDrop_len (l:List S122):(newDrop l).length≤1:=by unfold newDrop;split <;> simp
theorem impl_OpenShelf_ev (rb:RBf) (hrb:∀ c,c.size≤9000→RB c (rb c)) (rm:RMf) (hrm:∀ s,s.size≤1000000→RM s (rm s)) (d:List S122) (hl:d.length≤1048576):Ev (fun k => Zm.f k d) (ZU rb rm d):=by
 unfold Zm.f ZU Z0H
 refine Ev.bind (impl_DiskOk_ev d hl) ?_
 cases hd:Z0B d
 ·exact Ev.neg (by simp) (Ev.done (by simp [noLoad,noShelf]))
 have ht:=textAt_size hd ⟨#[109]⟩
 refine Ev.pos rfl (Ev.bind (impl_FileAt_ev d hd _) (Ev.bind (hrm (ZD ⟨#[109]⟩ d) (by omega)).2.1 ?_))
 rw [if_pos (show true = true from rfl)]
 change Ev (fun k => if stands (Ze ⟨#[109]⟩) d = true then (if (manAt rm d).2.2.2.2.2 = true then Zm.l0 k (manAt rm d).1 ((manAt rm d).1.length:Int) 0 d [] 0 0 0 [] [] 0 (manAt rm d).2.1 (manAt rm d).2.2.1 (manAt rm d).2.2.2.1 (manAt rm d).2.2.2.2.1 else some (noShelf 2)) else some (noShelf 2)) _
 cases hs:stands (Ze ⟨#[109]⟩) d
 ·exact Ev.neg (by simp) (Ev.done (by simp [noLoad,noShelf]))
 refine Ev.pos rfl ?_
 cases hm:(manAt rm d).2.2.2.2.2
 ·exact Ev.neg (by simp) (Ev.done (by simp [noLoad,noShelf]))
 have hk:=man_good hrm hd hm
 obtain ⟨b1,-,-,-,-,b6,-⟩:=Z0b hk
 have hdl:=(diskOk_up hd).1
 have hnd:=newDrop_len d
 have hdo:=dropsOf_len (manAt rm d).1 d
 rw [Bool.true_and,if_pos (show true = true from rfl)]
 refine Ev.pos rfl (impl_OpenShelf_l0 d hd (manAt rm d).1 _ _ _ _ (by omega) _ (fun ha => ?_) (fun ha => ?_) (manAt rm d).1 0 rfl rfl)
 ·rw [if_pos ha]
  refine Ev.bind (impl_cleaning_ev d hd (manAt rm d).1 (by omega) b6 _ _ _ _) (Ev.eq (impl_OpenShelf_l1 rb hrb d hd (manAt rm d).1 (by omega) _ _ _ _ (manAt rm d).1 0 _ [] _ rfl (by omega) (by rw [List.length_append];omega) (by simp)) ?_)
  cases ho:openOn rb d (manAt rm d).1 [] (manAt rm d).2.2.1 with
  | none => simp [noLoad,noShelf]
  | some z =>
   obtain ⟨sp',st'⟩:=z
   dsimp only
   split
   ·rename_i hdk
    rw [tailPut_last rb d _ 0 (by intro e;rw [e] at b1;simp at b1)]
    simp
   ·simp [noLoad,noShelf]
 ·simp only [ha,Bool.false_eq_true,if_false]
  simp [noLoad,noShelf]
theorem dirOk_small {l:List S145} (h:dirOk l = true):l.length≤60:=by
 rw [dirOk,Bool.and_eq_true,decide_eq_true_iff] at h
 exact h.1
theorem shelfOf_small {rb:RBf} {rm:RMf} (hrm:∀ s,s.size≤1000000→RM s (rm s)) (d:List S122):(ZU rb rm d).1.length≤8∧(ZU rb rm d).2.2.2.2.1.length≤4∧(ZU rb rm d).2.2.2.2.2.1.length≤60∧(ZU rb rm d).2.2.2.2.2.2.2.1.length≤32:=by
 unfold ZU
 split
 ·rename_i hc
  obtain ⟨g1,g2,g3,-,-⟩:=load_good hrm hc
  obtain ⟨b1,-,-,-,b5,-,-⟩:=Z0b g2
  have hdl:=(diskOk_up g1).1
  have hnd:=newDrop_len d
  have hdo:=dropsOf_len (Z0H rb rm d).1 d
  have h3:=dirOk_small g3
  have hp:(putRaw d (lastOf (Z0H rb rm d).1) (Z0H rb rm d).2.2.2.2.2.2.2.1).length≤1:=by unfold putRaw;split <;> simp
  dsimp only
  simp only [List.length_append]
  omega
 ·simp [noShelf]
theorem rb_all:∃ rb:RBf,∀ c,c.size≤9000→RB c (rb c):=Classical.axiomOfChoice (r:=fun (c:ByteArray) (r:Int×List S162×Bool) => c.size≤9000→RB c r) (fun c => by
 by_cases h:c.size≤9000
 ·obtain ⟨r,hr⟩:=readBatch_both c (by omega)
  exact ⟨r,fun _ => hr⟩
 ·exact ⟨(0,[],false),fun h' => absurd h' h⟩)
theorem rm_all:∃ rm:RMf,∀ s,s.size≤1000000→RM s (rm s):=Classical.axiomOfChoice (r:=fun (s:ByteArray) (r:Man) => s.size≤1000000→RM s r) (fun s => by
 by_cases h:s.size≤1000000
 ·obtain ⟨r,hr⟩:=readManifest_both s h
  exact ⟨r,fun _ => hr⟩
 ·exact ⟨noMan,fun h' => absurd h' h⟩)
theorem shelf_load {rb:RBf} {rm:RMf} {d:List S122} (h:(ZU rb rm d).2.2.2.2.2.2.2.2 = 0):(Z0H rb rm d).2.2.2.2.2.2.2.2 = 0:=by
 unfold ZU at h
 split at h
 ·assumption
 ·exact h
theorem shelf_good {rb:RBf} {rm:RMf} (hrm:∀ s,s.size≤1000000→RM s (rm s)) {d:List S122} (h:(ZU rb rm d).2.2.2.2.2.2.2.2 = 0):Z0B d = true∧manOk (ZU rb rm d).1 (ZU rb rm d).2.1 (ZU rb rm d).2.2.1 (ZU rb rm d).2.2.2.1 (ZU rb rm d).2.2.2.2.1 = true∧dirOk (ZU rb rm d).2.2.2.2.2.1 = true:=by
 have hc:=shelf_load h
 obtain ⟨g1,g2,g3,-,-⟩:=load_good hrm hc
 unfold ZU
 rw [if_pos hc]
 exact ⟨g1,g2,g3⟩
theorem spec_l09SameInts_loop (l m:List Int) (hl:l.length≤9223372036854775806) (he:l.length = m.length):∀ (ra rb:List Int) (n:Nat),l.drop n = ra→m.drop n = rb→Ev (fun k => Z04.l0 k l m (n:Int)) (decide (ra = rb)):=by
 intro ra
 induction ra with
 | nil =>
  intro rb n h1 h2
  have h3:=ZA h1
  have:rb = []:=by rw [←h2];exact List.drop_eq_nil_of_le (by omega)
  subst this
  refine Ev.step (fun _ => rfl) ?_
  simp only [Z04.l0]
  exact Ev.neg (by omega) (Ev.done (by simp))
 | cons x t ih =>
  intro rb n h1 h2
  obtain ⟨k1,-,k3⟩:=Zg h1
  cases rb with
  | nil => have:=ZA h2;omega
  | cons y u =>
   obtain ⟨j1,-,j3⟩:=Zg h2
   refine Ev.step (fun _ => rfl) ?_
   simp only [Z04.l0,drop_rd h1,drop_rd h2,Z4 (show n≤9223372036854775806 by omega)]
   refine Ev.pos (by omega) (Ev.pos (by omega) (Ev.pos (by omega) (Ev.ite (fun hc => Ev.eq (ih u (n + 1) k3 j3) ?_) (fun hc => Ev.done ?_))))
   ·subst hc;simp
   ·simp [hc]
theorem spec_l09SameInts_ev (l m:List Int) (hl:l.length≤9223372036854775806):Ev (fun k => Z04.f k l m) (decide (l = m)):=by
 unfold Z04.f
 refine Ev.ite (fun hc => spec_l09SameInts_loop l m hl (by omega) l m 0 rfl rfl) (fun hc => Ev.done ?_)
 exact (decide_eq_false (fun e => hc (by rw [e]))).symm
def spotTup (x:S145):ByteArray×Int×Int×Int:=(x.f0,x.f1,x.f2,x.f3)
theorem spotTup_inj:∀ {l m:List S145},l.map spotTup = m.map spotTup→l = m
 | [],[],_ => rfl
 | [],_::_,h => by simp at h
 | _::_,[],h => by simp at h
 | ⟨a,b,c,d⟩::l,⟨a',b',c',d'⟩::m,h => by
  simp only [List.map_cons,List.cons.injEq,spotTup,Prod.mk.injEq] at h
  obtain ⟨⟨rfl,rfl,rfl,rfl⟩,h⟩:=h
  rw [spotTup_inj h]
def shelfEq (s0:List Int) (a b c:Int) (s4:List Int) (dir:List S145) (st:Int) (t0:List Int) (a' b' c':Int) (t4:List Int) (dir':List S145) (st':Int):Bool :=
 decide (st = st') && (decide (s0 = t0) && (decide (a = a') && (decide (b = b') && (decide (c = c') && (decide (s4 = t4) && decide (dir.map spotTup = dir'.map spotTup))))))
theorem shelfEq_true {s0 t0 s4 t4:List Int} {a b c st a' b' c' st':Int} {dir dir':List S145} (h:shelfEq s0 a b c s4 dir st t0 a' b' c' t4 dir' st' = true):st = st'∧s0 = t0∧a = a'∧b = b'∧c = c'∧s4 = t4∧dir = dir':=by
 unfold shelfEq at h
 simp only [Bool.and_eq_true,decide_eq_true_iff] at h
 exact ⟨h.1,h.2.1,h.2.2.1,h.2.2.2.1,h.2.2.2.2.1,h.2.2.2.2.2.1,spotTup_inj h.2.2.2.2.2.2⟩
theorem shelfEq_symm (s0:List Int) (a b c:Int) (s4:List Int) (dir:List S145) (st:Int) (t0:List Int) (a' b' c':Int) (t4:List Int) (dir':List S145) (st':Int):shelfEq s0 a b c s4 dir st t0 a' b' c' t4 dir' st' = shelfEq t0 a' b' c' t4 dir' st' s0 a b c s4 dir st:=by
 have h:∀ {s0 t0 s4 t4:List Int} {a b c st a' b' c' st':Int} {dir dir':List S145},shelfEq s0 a b c s4 dir st t0 a' b' c' t4 dir' st' = true→shelfEq t0 a' b' c' t4 dir' st' s0 a b c s4 dir st = true:=by
  intro s0 t0 s4 t4 a b c st a' b' c' st' dir dir' h
  obtain ⟨rfl,rfl,rfl,rfl,rfl,rfl,rfl⟩:=shelfEq_true h
  exact h
 exact Bool.eq_iff_iff.2 ⟨h,h⟩
theorem spec_l09Same_loop (l m:List S145) (hl:l.length≤9223372036854775806) (he:l.length = m.length) (s0:List Int) (a b c:Int) (s4:List Int) (st:Int) (t0:List Int) (a' b' c':Int) (t4:List Int) (st':Int):∀ (ra rb:List S145) (n:Nat),l.drop n = ra→m.drop n = rb→Ev (fun k => Zt.l0 k (n:Int) s0 a b c s4 l st t0 a' b' c' t4 m st') (decide (ra.map spotTup = rb.map spotTup)):=by
 intro ra
 induction ra with
 | nil =>
  intro rb n h1 h2
  have h3:=ZA h1
  have:rb = []:=by rw [←h2];exact List.drop_eq_nil_of_le (by omega)
  subst this
  refine Ev.step (fun _ => rfl) ?_
  simp only [Zt.l0]
  exact Ev.neg (by omega) (Ev.done (by simp))
 | cons x t ih =>
  intro rb n h1 h2
  obtain ⟨k1,-,k3⟩:=Zg h1
  cases rb with
  | nil => have:=ZA h2;omega
  | cons y u =>
   obtain ⟨j1,-,j3⟩:=Zg h2
   refine Ev.step (fun _ => rfl) ?_
   simp only [Zt.l0,rdT145_drop h1,rdT145_drop h2,Z4 (show n≤9223372036854775806 by omega)]
   refine Ev.pos (by omega) (Ev.pos (by omega) (Ev.pos (by omega) (Ev.ite (fun hc => Ev.done ?_) (fun hc => Ev.eq (ih u (n + 1) k3 j3) ?_))))
   ·symm
    rw [decide_eq_false_iff_not]
    intro e
    simp only [List.map_cons,List.cons.injEq,spotTup,Prod.mk.injEq] at e
    obtain ⟨⟨e1,e2,e3,e4⟩,-⟩:=e
    simp [e1,e2,e3,e4] at hc
   ·simp only [Bool.not_eq_true,Bool.or_eq_false_iff,Bool.not_eq_false',beq_iff_eq] at hc
    obtain ⟨e1,e2,e3,e4⟩:=hc
    have e1:=toList_inj.1 e1
    simp [spotTup,e1,e2,e3,e4]
theorem spec_l09Same_ev (s0:List Int) (a b c:Int) (s4:List Int) (dir:List S145) (st:Int) (t0:List Int) (a' b' c':Int) (t4:List Int) (dir':List S145) (st':Int) (h0:s0.length≤9223372036854775806) (h4:s4.length≤9223372036854775806) (h5:dir.length≤9223372036854775806):Ev (fun k => Zt.f k s0 a b c s4 dir st t0 a' b' c' t4 dir' st') (shelfEq s0 a b c s4 dir st t0 a' b' c' t4 dir' st'):=by
 have no:∀ r:Bool,r = false→Ev (fun k => Zt.j0 k true s0 a b c s4 dir st t0 a' b' c' t4 dir' st') r:=fun r hr => by
  refine Ev.step (fun _ => rfl) ?_
  simp only [Zt.j0]
  exact Ev.pos trivial (Ev.done hr.symm)
 unfold Zt.f
 refine Ev.ite (fun e1 => Ev.bind (spec_l09SameInts_ev s0 t0 h0) (Ev.ite (fun e2 => Ev.ite (fun e3 => Ev.ite (fun e4 => Ev.ite (fun e5 => Ev.bind (spec_l09SameInts_ev s4 t4 h4) (Ev.ite (fun e6 => ?_) (fun e6 => no _ ?_))) (fun e5 => no _ ?_)) (fun e4 => no _ ?_)) (fun e3 => no _ ?_)) (fun e2 => no _ ?_))) (fun e1 => no _ ?_)
 ·have e2:=of_decide_eq_true e2
  have e6:=of_decide_eq_true e6
  subst e1 e2 e3 e4 e5 e6
  refine Ev.step (fun _ => rfl) ?_
  simp only [Zt.j0]
  refine Ev.ite (fun hc => Ev.done ?_) (fun hc => ?_)
  ·symm
   unfold shelfEq
   have:¬ dir.map spotTup = dir'.map spotTup:=fun e => by
    have:=congrArg List.length e
    simp only [List.length_map] at this
    simp [this] at hc
   simp [this]
  ·have he:dir.length = dir'.length:=by have hi:=hc;simp at hi;omega
   refine Ev.eq (spec_l09Same_loop dir dir' h5 he _ _ _ _ _ _ _ _ _ _ _ _ dir dir' 0 rfl rfl) ?_
   simp [shelfEq]
 ·unfold shelfEq;simp at e6;simp [e6]
 ·unfold shelfEq;simp [e5]
 ·unfold shelfEq;simp [e4]
 ·unfold shelfEq;simp [e3]
 ·unfold shelfEq;simp at e2;simp [e2]
 ·unfold shelfEq;simp [e1]
theorem eqInts_loop (l m:List Int) (hl:l.length≤9223372036854775806) (he:l.length = m.length):∀ (ra rb:List Int) (n:Nat),l.drop n = ra→m.drop n = rb→Ev (fun k => ZG.l0 k l m (l.length:Int) (n:Int)) (decide (ra = rb)):=by
 intro ra
 induction ra with
 | nil =>
  intro rb n h1 h2
  have h3:=ZA h1
  have:rb = []:=by rw [←h2];exact List.drop_eq_nil_of_le (by omega)
  subst this
  refine Ev.step (fun _ => rfl) ?_
  simp only [ZG.l0]
  exact Ev.neg (by omega) (Ev.done (by simp))
 | cons x t ih =>
  intro rb n h1 h2
  obtain ⟨k1,-,k3⟩:=Zg h1
  cases rb with
  | nil => have:=ZA h2;omega
  | cons y u =>
   obtain ⟨j1,-,j3⟩:=Zg h2
   refine Ev.step (fun _ => rfl) ?_
   simp only [ZG.l0,drop_rd h1,drop_rd h2,Z4 (show n≤9223372036854775806 by omega)]
   refine Ev.pos (by omega) (Ev.pos (by omega) (Ev.pos (by omega) (Ev.pos (by omega) (Ev.ite (fun hc => Ev.eq (ih u (n + 1) k3 j3) ?_) (fun hc => Ev.done ?_)))))
   ·subst hc;simp
   ·simp [hc]
theorem eqInts_ev (l m:List Int) (hl:l.length≤9223372036854775806):Ev (fun k => ZG.f k l m) (decide (l = m)):=by
 unfold ZG.f
 refine Ev.ite (fun hc => eqInts_loop l m hl (by omega) l m 0 rfl rfl) (fun hc => Ev.done ?_)
 exact (decide_eq_false (fun e => hc (by rw [e]))).symm
theorem eqSpots_loop (l m:List S145) (hl:l.length≤9223372036854775806) (he:l.length = m.length):∀ (ra rb:List S145) (n:Nat),l.drop n = ra→m.drop n = rb→Ev (fun k => Zc.l0 k l m (l.length:Int) (n:Int)) (decide (ra.map spotTup = rb.map spotTup)):=by
 intro ra
 induction ra with
 | nil =>
  intro rb n h1 h2
  have h3:=ZA h1
  have:rb = []:=by rw [←h2];exact List.drop_eq_nil_of_le (by omega)
  subst this
  refine Ev.step (fun _ => rfl) ?_
  simp only [Zc.l0]
  exact Ev.neg (by omega) (Ev.done (by simp))
 | cons x t ih =>
  intro rb n h1 h2
  obtain ⟨k1,-,k3⟩:=Zg h1
  cases rb with
  | nil => have:=ZA h2;omega
  | cons y u =>
   obtain ⟨j1,-,j3⟩:=Zg h2
   refine Ev.step (fun _ => rfl) ?_
   simp only [Zc.l0,rdT145_drop h1,rdT145_drop h2,Z4 (show n≤9223372036854775806 by omega)]
   refine Ev.pos (by omega) (Ev.pos (by omega) (Ev.pos (by omega) (Ev.pos (by omega) (Ev.ite (fun hc => Ev.eq (ih u (n + 1) k3 j3) ?_) (fun hc => Ev.done ?_)))))
   ·simp only [Bool.and_eq_true,beq_iff_eq] at hc
    obtain ⟨e1,e2,e3,e4⟩:=hc
    have e1:=toList_inj.1 e1
    simp [spotTup,e1,e2,e3,e4]
   ·symm
    rw [decide_eq_false_iff_not]
    intro e
    simp only [List.map_cons,List.cons.injEq,spotTup,Prod.mk.injEq] at e
    obtain ⟨⟨e1,e2,e3,e4⟩,-⟩:=e
    simp [e1,e2,e3,e4] at hc
theorem eqSpots_ev (l m:List S145) (hl:l.length≤9223372036854775806):Ev (fun k => Zc.f k l m) (decide (l.map spotTup = m.map spotTup)):=by
 unfold Zc.f
 refine Ev.ite (fun hc => eqSpots_loop l m hl (by omega) l m 0 rfl rfl) (fun hc => Ev.done ?_)
 refine (decide_eq_false (fun e => hc ?_)).symm
 have:=congrArg List.length e
 simp only [List.length_map] at this
 rw [this]
theorem impl_sameShelf_ev (s0:List Int) (a b c:Int) (s4:List Int) (dir:List S145) (st:Int) (t0:List Int) (a' b' c':Int) (t4:List Int) (dir':List S145) (st':Int) (h0:s0.length≤9223372036854775806) (h4:s4.length≤9223372036854775806) (h5:dir.length≤9223372036854775806):Ev (fun k => impl_sameShelf.f k s0 a b c s4 dir st t0 a' b' c' t4 dir' st') (shelfEq s0 a b c s4 dir st t0 a' b' c' t4 dir' st'):=by
 have hm:Ev (fun k => impl_sameManifest.f k s0 a b c s4 t0 a' b' c' t4) (decide (s0 = t0) && (decide (a = a') && (decide (b = b') && (decide (c = c') && decide (s4 = t4))))):=by
  unfold impl_sameManifest.f
  refine Ev.bind (eqInts_ev s0 t0 h0) (Ev.ite (fun e2 => Ev.ite (fun e3 => Ev.ite (fun e4 => Ev.ite (fun e5 => Ev.bind (eqInts_ev s4 t4 h4) (Ev.done ?_)) (fun e5 => Ev.done ?_)) (fun e4 => Ev.done ?_)) (fun e3 => Ev.done ?_)) (fun e2 => Ev.done ?_))
  ·simp only [e2,e3,e4,e5,decide_true,Bool.true_and]
  ·simp [e5]
  ·simp [e4]
  ·simp [e3]
  ·rw [Bool.eq_false_iff.2 e2,Bool.false_and]
 unfold impl_sameShelf.f
 refine Ev.bind hm (Ev.ite (fun e1 => Ev.bind (eqSpots_ev dir dir' h5) (Ev.ite (fun e2 => Ev.done ?_) (fun e2 => Ev.done ?_))) (fun e1 => Ev.done ?_))
 ·simp only [Bool.and_eq_true] at e1
  unfold shelfEq
  rw [e1.1,e1.2.1,e1.2.2.1,e1.2.2.2.1,e1.2.2.2.2,e2]
  simp only [Bool.and_true]
  exact Bool.eq_iff_iff.2 (by simp)
 ·unfold shelfEq;rw [Bool.eq_false_iff.2 e2];simp
 ·unfold shelfEq
  symm
  rw [Bool.eq_false_iff]
  intro h
  apply e1
  simp only [Bool.and_eq_true] at h ⊢
  exact ⟨h.2.1,h.2.2.1,h.2.2.2.1,h.2.2.2.2.1,h.2.2.2.2.2.1⟩
def putF (name text:ByteArray) (d:List S122):List S122:=d.filter (fun x => lessK x.f0 name)++[(⟨name,text⟩:S122)]++d.filter (fun x => lessK name x.f0)
theorem spec_l03Put_l1 (d:List S122) (hd:d.length≤1048576) (name text:ByteArray):∀ (rest:List S122) (n:Nat) (acc:List S122),d.drop n = rest→acc.length + rest.length≤4000000 →
  Ev (fun k => Z09.l1 k (n:Int) d name text acc) (acc++rest.filter fun x => lessK name x.f0):=by
 intro rest
 induction rest with
 | nil =>
  intro n acc h _
  have:=ZA h
  refine Ev.step (fun _ => rfl) ?_
  simp only [Z09.l1]
  exact Ev.neg (by omega) (Ev.done (by simp))
 | cons x t ih =>
  intro n acc h h1
  obtain ⟨k1,-,k3⟩:=Zg h
  rw [List.length_cons] at h1
  refine Ev.step (fun _ => rfl) ?_
  simp only [Z09.l1,rdT122_drop h,Z4 (show n≤9223372036854775806 by omega)]
  refine Ev.pos (by omega) (Ev.pos (by omega) (Ev.ite (fun hc => Ev.pos (by omega) (Ev.eq (ih (n + 1) _ k3 (by simp;omega)) ?_)) (fun hc => Ev.eq (ih (n + 1) acc k3 (by omega)) ?_)))
  ·rw [List.filter_cons_of_pos (by exact hc)];simp
  ·rw [List.filter_cons_of_neg (by exact hc)]
theorem spec_l03Put_l0 (d:List S122) (hd:d.length≤1048576) (name text:ByteArray):∀ (rest:List S122) (n:Nat) (acc:List S122),d.drop n = rest→acc.length + rest.length≤1048576→acc++rest.filter (fun x => lessK x.f0 name) = d.filter (fun x => lessK x.f0 name) →
  Ev (fun k => Z09.l0 k (n:Int) d name text acc) (putF name text d):=by
 intro rest
 induction rest with
 | nil =>
  intro n acc h h1 he
  have:=ZA h
  rw [List.filter_nil,List.append_nil] at he
  rw [List.length_nil] at h1
  refine Ev.step (fun _ => rfl) ?_
  simp only [Z09.l0]
  refine Ev.neg (by omega) (Ev.pos (by omega) (Ev.eq (spec_l03Put_l1 d hd name text d 0 _ rfl (by simp;omega)) ?_))
  rw [he];rfl
 | cons x t ih =>
  intro n acc h h1 he
  obtain ⟨k1,-,k3⟩:=Zg h
  rw [List.length_cons] at h1
  refine Ev.step (fun _ => rfl) ?_
  simp only [Z09.l0,rdT122_drop h,Z4 (show n≤9223372036854775806 by omega)]
  refine Ev.pos (by omega) (Ev.pos (by omega) (Ev.ite (fun hc => Ev.pos (by omega) (ih (n + 1) _ k3 (by simp;omega) ?_)) (fun hc => ih (n + 1) acc k3 (by omega) ?_)))
  ·rw [List.filter_cons_of_pos (by exact hc)] at he;rw [←he];simp
  ·rw [List.filter_cons_of_neg (by exact hc)] at he;exact he
theorem spec_l03Put_ev (d:List S122) (hd:d.length≤1048576) (name text:ByteArray):Ev (fun k => Z09.f k d name text) (putF name text d) :=
 spec_l03Put_l0 d hd name text d 0 [] rfl (by simp;omega) (by simp)
theorem putF_len (name text:ByteArray) (d:List S122):(putF name text d).length≤2 * d.length + 1:=by
 have h1:=List.length_filter_le (fun x:S122 => lessK x.f0 name) d
 have h2:=List.length_filter_le (fun x:S122 => lessK name x.f0) d
 unfold putF
 simp only [List.length_append,List.length_singleton]
 omega
def dropF (name:ByteArray) (d:List S122):List S122:=d.filter fun x => !decide (x.f0 = name)
theorem dropF_len (name:ByteArray) (d:List S122):(dropF name d).length≤d.length:=List.length_filter_le _ _
theorem spec_l03Drop_l0 (name:ByteArray) (d:List S122) (hd:d.length≤1048576):∀ (rest:List S122) (n:Nat) (acc:List S122),d.drop n = rest→acc.length + rest.length≤1048576 →
  Ev (fun k => Z0S.l0 k name (n:Int) d acc) (acc++dropF name rest):=by
 intro rest
 induction rest with
 | nil =>
  intro n acc h _
  have:=ZA h
  refine Ev.step (fun _ => rfl) ?_
  simp only [Z0S.l0]
  exact Ev.neg (by omega) (Ev.done (by simp [dropF]))
 | cons x t ih =>
  intro n acc h h1
  obtain ⟨k1,-,k3⟩:=Zg h
  rw [List.length_cons] at h1
  refine Ev.step (fun _ => rfl) ?_
  simp only [Z0S.l0,rdT122_drop h,Z4 (show n≤9223372036854775806 by omega)]
  refine Ev.pos (by omega) (Ev.pos (by omega) (Ev.ite (fun hc => Ev.eq (ih (n + 1) acc k3 (by omega)) ?_) (fun hc => Ev.pos (by omega) (Ev.eq (ih (n + 1) _ k3 (by simp;omega)) ?_))))
  ·unfold dropF;rw [List.filter_cons_of_neg (by simp [toList_inj.1 hc])]
  ·unfold dropF;rw [List.filter_cons_of_pos (by simp;exact fun e => hc (by rw [e]))];simp
theorem spec_l03Drop_ev (d:List S122) (hd:d.length≤1048576) (name:ByteArray):Ev (fun k => Z0S.f k d name) (dropF name d) :=
 Ev.eq (spec_l03Drop_l0 name d hd d 0 [] rfl (by simp;omega)) (by simp)
def putRawOf (d:List S122) (r:S119):List S122 :=
 if r.f0 = 1 then putF r.f1 r.f3 d else if r.f0 = 2 then putF r.f1 (ZD r.f1 d++r.f3) d else if r.f0 = 3 then (if r.f2 = r.f1 then d else putF r.f2 (ZD r.f1 d) (dropF r.f1 d)) else dropF r.f1 d
def putRaw1 (d:List S122) (r:S119):List S122×Bool :=
 if (Z0B d && (inR r.f0 1 4 && (decide (r.f0 < 3) || stands (Ze r.f1) d))) = true then (if Z0B (putRawOf d r) = true then (putRawOf d r,true) else ([],false)) else ([],false)
theorem spec_fin (t:List S122) (ht:t.length≤1048576):Ev (fun k => (ZR.f k t).bind fun b => if b = true then some (t,true) else some ([],false)) (if Z0B t = true then (t,true) else ([],false)):=by
 refine Ev.bind (spec_DiskOk_ev t ht) ?_
 cases Z0B t
 ·exact Ev.neg (by simp) (Ev.now _)
 ·exact Ev.pos rfl (Ev.now _)
theorem spec_PutRaw_ev (d:List S122) (hd:Z0B d = true) (r:S119) (h3:r.f3.size≤1000000000):Ev (fun k => Z08.f k d r.f0 r.f1 r.f2 r.f3) (putRaw1 d r):=by
 obtain ⟨hdl,hu⟩:=diskOk_up hd
 have hl:d.length≤1048576:=by omega
 have no:∀ x6:Int,Ev (fun k => Z08.j0 k x6 true d r.f0 r.f1 r.f2 r.f3) ([],false):=fun x6 => by
  refine Ev.step (fun _ => rfl) ?_
  simp only [Z08.j0]
  exact Ev.pos trivial (Ev.now _)
 have go:∀ x6:Int,inR r.f0 1 4 = true→(r.f0 = 3→stands (Ze r.f1) d = true∧x6 = ((Z01 (Ze r.f1) d:Nat):Int))→Ev (fun k => Z08.j0 k x6 false d r.f0 r.f1 r.f2 r.f3) (if Z0B (putRawOf d r) = true then (putRawOf d r,true) else ([],false)):=fun x6 hk hx => by
  have hk:=Zu.1 hk
  have ht:=textAt_size hd r.f1
  refine Ev.step (fun _ => rfl) ?_
  simp only [Z08.j0]
  refine Ev.neg (by simp) (Ev.call rfl (Ev.pos (by simp;omega) (Ev.call rfl ?_)))
  rw [List.nil_append]
  unfold putRawOf
  refine Ev.ite (fun e1 => ?_) (fun e1 => Ev.ite (fun e2 => ?_) (fun e2 => Ev.ite (fun e3 => ?_) (fun e3 => ?_)))
  ·rw [if_pos e1]
   have:=putF_len r.f1 r.f3 d
   exact Ev.bind (spec_l03Put_ev d hl r.f1 r.f3) (spec_fin _ (by omega))
  ·rw [if_neg e1,if_pos e2]
   have:=putF_len r.f1 (ZD r.f1 d++r.f3) d
   exact Ev.bind (spec_l03Text_ev d hl hu r.f1) (Ev.pos (by omega) (Ev.bind (spec_l03Put_ev d hl r.f1 _) (spec_fin _ (by omega))))
  ·rw [if_neg e1,if_neg e2,if_pos e3]
   obtain ⟨hs,rfl⟩:=hx e3
   have:=dropF_len r.f1 d
   refine Ev.ite (fun e4 => ?_) (fun e4 => ?_)
   ·rw [show (if r.f2 = r.f1 then d else putF r.f2 (ZD r.f1 d) (dropF r.f1 d)) = d from if_pos (toList_inj.1 e4)];exact spec_fin _ hl
   ·rw [show (if r.f2 = r.f1 then d else putF r.f2 (ZD r.f1 d) (dropF r.f1 d)) = putF r.f2 (ZD r.f1 d) (dropF r.f1 d) from if_neg (fun e => e4 (by rw [e]))]
    obtain ⟨x,hx1,-⟩:=stands_at hs
    obtain ⟨h1,-⟩:=List.getElem?_eq_some_iff.1 hx1
    have et:(Z0e d ((Z01 (Ze r.f1) d:Nat):Int)).f1 = ZD r.f1 d:=by unfold ZD;rw [if_pos hs]
    rw [et]
    have:=putF_len r.f2 (ZD r.f1 d) (dropF r.f1 d)
    exact Ev.bind (spec_l03Drop_ev d hl r.f1) (Ev.pos (by omega) (Ev.pos (by omega) (Ev.bind (spec_l03Put_ev _ (by omega) r.f2 _) (spec_fin _ (by omega)))))
  ·rw [if_neg e1,if_neg e2,if_neg e3]
   have:=dropF_len r.f1 d
   exact Ev.pos (by omega) (Ev.bind (spec_l03Drop_ev d hl r.f1) (spec_fin _ (by omega)))
 unfold Z08.f putRaw1
 refine Ev.bind (spec_l03At_ev d hl hu r.f1) (Ev.bind (spec_DiskOk_ev d hl) ?_)
 rw [hd]
 refine Ev.pos rfl (Ev.call (Z0u _ _ _) ?_)
 cases hk:inR r.f0 1 4
 ·exact Ev.neg (by simp) (Ev.eq (no _) (by simp))
 refine Ev.pos rfl ?_
 unfold placeAt
 cases hs:stands (Ze r.f1) d
 ·rw [if_neg (by simp)]
  refine Ev.pos (by omega) ?_
  by_cases h4:r.f0≥3
  ·rw [decide_eq_true h4]
   exact Ev.eq (no _) (by rw [decide_eq_false (show ¬ r.f0 < 3 by omega)];simp)
  ·rw [decide_eq_false h4]
   exact Ev.eq (go _ hk (fun e => absurd (by omega) h4)) (by rw [decide_eq_true (show r.f0 < 3 by omega)];simp)
 ·rw [if_pos rfl]
  exact Ev.neg (by omega) (Ev.eq (go _ hk (fun _ => ⟨hs,rfl⟩)) (by simp))
theorem fahead_cons (key:ByteArray) (x:S122) (t:List S122):Z01 (Ze key) (x::t) = Z01 (Ze key) t + (if lessK x.f0 key = true then 1 else 0):=by
 unfold Z01
 rw [List.countP_cons]
 congr 1
 by_cases h:lessK x.f0 key = true
 ·rw [if_pos h,if_pos (by rw [decide_eq_true_iff,name_lt];exact h)]
 ·rw [if_neg h,if_neg (by rw [decide_eq_true_iff,name_lt];exact h)]
theorem fup_none {key:ByteArray} {x:S122} {t:List S122} (h:namesUp (x::t)) (hx:¬ lessK x.f0 key = true):∀ y∈t,¬ lessK y.f0 key = true:=fun y hy e => hx (less_trans ((List.pairwise_cons.mp h).1 y hy) e)
theorem fahead_none {key:ByteArray} {t:List S122} (h:∀ y∈t,¬ lessK y.f0 key = true):Z01 (Ze key) t = 0:=by
 unfold Z01
 rw [List.countP_eq_zero]
 intro y hy
 rw [decide_eq_true_iff,name_lt]
 exact h y hy
theorem fahead_take (key:ByteArray):∀ (l:List S122),namesUp l→l.take (Z01 (Ze key) l) = l.filter (fun x => lessK x.f0 key)∧l.drop (Z01 (Ze key) l) = l.filter (fun x => !lessK x.f0 key)
 | [],_ => by simp
 | x::t,h => by
  by_cases hx:lessK x.f0 key = true
  ·obtain ⟨h1,h2⟩:=fahead_take key t (List.pairwise_cons.mp h).2
   rw [fahead_cons,if_pos hx,List.take_succ_cons,List.drop_succ_cons,List.filter_cons_of_pos (by exact hx),List.filter_cons_of_neg (by simp [hx]),h1,h2]
   exact ⟨rfl,rfl⟩
  ·have hn:=fup_none h hx
   rw [fahead_cons,if_neg hx,fahead_none hn]
   refine ⟨?_,?_⟩
   ·rw [List.filter_eq_nil_iff.mpr (fun y hy => by rcases List.mem_cons.1 hy with rfl | hy;exact hx;exact hn y hy)];rfl
   ·rw [List.filter_eq_self.mpr (fun y hy => by rcases List.mem_cons.1 hy with rfl | hy;(simp [hx]);(simp [hn y hy]))];rfl
theorem fStands_at (key:ByteArray) {l:List S122} (h:namesUp l) :
  (stands (Ze key) l = true→Z01 (Ze key) l < l.length∧l.drop (Z01 (Ze key) l + 1) = l.filter (fun x => lessK key x.f0)) ∧
  (stands (Ze key) l = false→l.drop (Z01 (Ze key) l) = l.filter (fun x => lessK key x.f0)):=by
 have hd:=(fahead_take key l h).2
 have hf:∀ {t:List S122},(∀ x∈t,lessK key x.f0 = true)→∀ {a:List S122},l = a++t→(∀ x∈a,¬ lessK key x.f0 = true)→l.filter (fun x => lessK key x.f0) = t:=by
  intro t ht a hl ha
  rw [hl,List.filter_append,List.filter_eq_nil_iff.mpr (fun x hx => ha x hx),List.filter_eq_self.mpr (fun x hx => ht x hx),List.nil_append]
 have ht:∀ x∈l.take (Z01 (Ze key) l),¬ lessK key x.f0 = true:=by
  intro x hx e
  rw [(fahead_take key l h).1] at hx
  have:=less_trans e (List.mem_filter.1 hx).2
  rw [less_irr] at this;cases this
 have hup:namesUp (l.drop (Z01 (Ze key) l)):=List.Pairwise.sublist (List.drop_sublist _ _) h
 have hge:∀ x∈l.drop (Z01 (Ze key) l),¬ lessK x.f0 key = true:=by
  intro x hx
  rw [hd] at hx
  simpa using (List.mem_filter.1 hx).2
 unfold stands
 rw [←List.head?_drop]
 cases hq:l.drop (Z01 (Ze key) l) with
 | nil =>
  refine ⟨fun e => by simp at e,fun _ => ?_⟩
  exact (hf (t:=[]) (by simp) (a:=l.take (Z01 (Ze key) l)) (by rw [←hq,List.take_append_drop]) ht).symm
 | cons m t =>
  rw [hq] at hup hge
  have hlt:Z01 (Ze key) l < l.length:=by
   rcases Nat.lt_or_ge (Z01 (Ze key) l) l.length with h1 | h1
   ·exact h1
   ·rw [List.drop_eq_nil_of_le h1] at hq;cases hq
  have hl:l = l.take (Z01 (Ze key) l)++(m::t):=by rw [←hq,List.take_append_drop]
  have ht1:l.drop (Z01 (Ze key) l + 1) = t:=by rw [←List.drop_drop,hq];rfl
  simp only [List.head?_cons,decide_eq_true_iff,decide_eq_false_iff_not,name_eq]
  refine ⟨fun e => ⟨hlt,?_⟩,fun e => ?_⟩
  ·rw [ht1]
   refine (hf (t:=t) (fun x hx => ?_) (a:=l.take (Z01 (Ze key) l)++[m]) (by rw [List.append_assoc];exact hl) (fun x hx => ?_)).symm
   ·have:=(List.pairwise_cons.mp hup).1 x hx
    unfold lessK at this ⊢
    rw [←e];exact this
   ·rcases List.mem_append.1 hx with hx | hx
    ·exact ht x hx
    ·rw [List.mem_singleton] at hx
     unfold lessK
     rw [hx,e,less_irr];simp
  ·refine (hf (t:=m::t) (fun x hx => ?_) hl ht).symm
   have hm:lessK key m.f0 = true:=by
    cases hc:lessK key m.f0
    ·exact absurd (less_tri (by simpa [lessK] using hge m List.mem_cons_self) hc) e
    ·rfl
   rcases List.mem_cons.1 hx with rfl | hx
   ·exact hm
   ·exact less_trans hm ((List.pairwise_cons.mp hup).1 x hx)
theorem withFile_eq (d:List S122) (hu:namesUp d) (hl:d.length≤1048576) (name text:ByteArray):Ev (fun k => impl_withFile.f k d name text) (putF name text d):=by
 have ha:=aheadN_le (Ze name) d
 obtain ⟨g1,g2⟩:=fStands_at name hu
 have ht:=(fahead_take name d hu).1
 unfold impl_withFile.f Z0L.f
 rw [if_pos (by omega),List.nil_append]
 refine Ev.call rfl (Ev.bind (impl_fileNo_ev d hl hu name) ?_)
 cases hs:stands (Ze name) d
 ·refine Ev.neg (by simp) ?_
  unfold Z0s.f insO
  dsimp only
  rw [if_pos (by omega),if_pos (by omega),if_pos (by omega),Option.bind_some,Option.bind_some]
  refine Ev.done ?_
  rw [Int.toNat_natCast,ht,g2 hs]
  unfold putF
  simp
 ·obtain ⟨x,hx,hxe⟩:=stands_at hs
  obtain ⟨h1,h2⟩:=g1 hs
  refine Ev.pos rfl (Ev.pos (by omega) (Ev.pos (by omega) (Ev.done ?_)))
  have er:(Z0e d ((Z01 (Ze name) d:Nat):Int)).f0 = name:=by
   rw [rdT122_get h1] at hx
   injection hx with hx
   rw [hx];exact toList_inj.1 hxe
  dsimp only
  rw [er,Int.toNat_natCast,List.set_eq_take_append_cons_drop,if_pos h1,ht,h2]
  unfold putF
  simp
theorem lt_ne {a b:ByteArray} (h:lessK a b = true):a≠b:=fun e => by subst e;rw [lessK_irr] at h;cases h
theorem dropF_parts (name:ByteArray) {d:List S122} (hu:namesUp d):d.filter (fun x => lessK x.f0 name)++d.filter (fun x => lessK name x.f0) = dropF name d:=by
 induction d with
 | nil => rfl
 | cons x t ih =>
  have ht:=(List.pairwise_cons.mp hu).2
  have ih:=ih ht
  unfold dropF at ih ⊢
  rcases lt_tri x.f0 name with h | h | h
  ·have h':¬ lessK name x.f0 = true:=fun e => by have:=lessK_trans h e;rw [lessK_irr] at this;cases this
   rw [List.filter_cons_of_pos (by exact h),List.filter_cons_of_neg (by exact h'),List.filter_cons_of_pos (by simpa using lt_ne h),List.cons_append,ih]
  ·have h1:¬ lessK x.f0 name = true:=by rw [h,lessK_irr];simp
   have h2:¬ lessK name x.f0 = true:=by rw [h,lessK_irr];simp
   rw [List.filter_cons_of_neg (by exact h1),List.filter_cons_of_neg (by exact h2),List.filter_cons_of_neg (by simp [h]),ih]
  ·have hn:∀ y∈t,¬ lessK y.f0 name = true:=fun y hy e => by
    have:=lessK_trans (lessK_trans h ((List.pairwise_cons.mp hu).1 y hy)) e
    rw [lessK_irr] at this;cases this
   have h':¬ lessK x.f0 name = true:=fun e => by have:=lessK_trans h e;rw [lessK_irr] at this;cases this
   have e0:t.filter (fun x => lessK x.f0 name) = []:=List.filter_eq_nil_iff.mpr hn
   rw [e0,List.nil_append] at ih
   rw [List.filter_cons_of_neg (by exact h'),List.filter_cons_of_pos (by exact h),List.filter_cons_of_pos (by simpa using (lt_ne h).symm),e0,List.nil_append,ih]
theorem dropF_up (name:ByteArray) {d:List S122} (hu:namesUp d):namesUp (dropF name d):=List.Pairwise.filter _ hu
theorem without_eq (d:List S122) (hu:namesUp d) (hl:d.length≤1048576) (name:ByteArray):Ev (fun k => impl_without.f k d name) (dropF name d):=by
 have ha:=aheadN_le (Ze name) d
 obtain ⟨g1,g2⟩:=fStands_at name hu
 have ht:=(fahead_take name d hu).1
 unfold impl_without.f Z0L.f
 rw [if_pos (by omega),List.nil_append]
 refine Ev.call rfl (Ev.bind (impl_fileNo_ev d hl hu name) ?_)
 rw [←dropF_parts name hu]
 cases hs:stands (Ze name) d
 ·refine Ev.neg (by simp) (Ev.done ?_)
  rw [←ht,←g2 hs,List.take_append_drop]
 ·obtain ⟨h1,h2⟩:=g1 hs
  refine Ev.pos rfl ?_
  unfold Z0r.f delO
  dsimp only
  rw [Z4 (show Z01 (Ze name) d≤9223372036854775806 by omega),if_pos (by omega),if_pos (by omega),if_pos (by omega),Option.bind_some]
  refine Ev.done ?_
  rw [Int.toNat_natCast,ht,h2]
theorem impl_fin (t:List S122) (ht:t.length≤1048576):Ev (fun k => (ZX.f k t).bind fun b => if b = true then some (t,true) else some ([],false)) (if Z0B t = true then (t,true) else ([],false)):=by
 refine Ev.bind (impl_DiskOk_ev t ht) ?_
 cases Z0B t
 ·exact Ev.neg (by simp) (Ev.now _)
 ·exact Ev.pos rfl (Ev.now _)
theorem impl_PutRaw_ev (d:List S122) (hd:Z0B d = true) (r:S119) (h3:r.f3.size≤1000000000):Ev (fun k => impl_PutRaw.f k d r.f0 r.f1 r.f2 r.f3) (putRaw1 d r):=by
 obtain ⟨hdl,hu⟩:=diskOk_up hd
 have hl:d.length≤1048576:=by omega
 have ht:=textAt_size hd r.f1
 unfold impl_PutRaw.f putRaw1
 refine Ev.bind (impl_DiskOk_ev d hl) ?_
 rw [hd,Bool.true_and]
 refine Ev.pos rfl (Ev.bind (impl_FileAt_ev d hd r.f1) ?_)
 dsimp only
 refine Ev.ite (fun e1 => ?_) (fun e1 => Ev.ite (fun e2 => ?_) (fun e2 => Ev.ite (fun e3 => ?_) (fun e3 => Ev.ite (fun e4 => ?_) (fun e4 => Ev.done ?_))))
 ·have hc:(inR r.f0 1 4 && (decide (r.f0 < 3) || stands (Ze r.f1) d)) = true:=by rw [e1];rfl
  have:=putF_len r.f1 r.f3 d
  have ep:putRawOf d r = putF r.f1 r.f3 d:=by unfold putRawOf;rw [if_pos e1]
  rw [if_pos hc,ep]
  exact Ev.bind (withFile_eq d hu hl r.f1 r.f3) (impl_fin _ (by omega))
 ·have hc:(inR r.f0 1 4 && (decide (r.f0 < 3) || stands (Ze r.f1) d)) = true:=by rw [e2];rfl
  have:=putF_len r.f1 (ZD r.f1 d++r.f3) d
  have ep:putRawOf d r = putF r.f1 (ZD r.f1 d++r.f3) d:=by unfold putRawOf;rw [if_neg e1,if_pos e2]
  rw [if_pos hc,ep]
  exact Ev.pos (by omega) (Ev.bind (withFile_eq d hu hl r.f1 _) (impl_fin _ (by omega)))
 ·have hc:(inR r.f0 1 4 && (decide (r.f0 < 3) || stands (Ze r.f1) d)) = stands (Ze r.f1) d:=by rw [e3];rfl
  have hdl2:=dropF_len r.f1 d
  have:=putF_len r.f2 (ZD r.f1 d) (dropF r.f1 d)
  refine Ev.call (by unfold Z0L.f;rw [if_pos (by omega),List.nil_append]) (Ev.ite (fun e5 => ?_) (fun e5 => ?_))
  ·have ep:putRawOf d r = d:=by unfold putRawOf;rw [if_neg e1,if_neg e2,if_pos e3,if_pos (toList_inj.1 e5).symm]
   rw [hc,ep]
   cases stands (Ze r.f1) d
   ·exact Ev.neg (by simp) (Ev.now _)
   ·exact Ev.pos rfl (impl_fin _ hl)
  ·have ep:putRawOf d r = putF r.f2 (ZD r.f1 d) (dropF r.f1 d):=by unfold putRawOf;rw [if_neg e1,if_neg e2,if_pos e3,if_neg (fun e => e5 (by rw [e]))]
   rw [hc,ep]
   refine Ev.bind (without_eq d hu hl r.f1) (Ev.bind (withFile_eq _ (dropF_up r.f1 hu) (by omega) r.f2 _) ?_)
   cases stands (Ze r.f1) d
   ·exact Ev.neg (by simp) (Ev.now _)
   ·exact Ev.pos rfl (impl_fin _ (by omega))
 ·have hc:(inR r.f0 1 4 && (decide (r.f0 < 3) || stands (Ze r.f1) d)) = stands (Ze r.f1) d:=by rw [e4];rfl
  have hdl2:=dropF_len r.f1 d
  have ep:putRawOf d r = dropF r.f1 d:=by unfold putRawOf;rw [if_neg e1,if_neg e2,if_neg e3]
  rw [hc,ep]
  refine Ev.bind (without_eq d hu hl r.f1) ?_
  cases stands (Ze r.f1) d
  ·exact Ev.neg (by simp) (Ev.now _)
  ·exact Ev.pos rfl (impl_fin _ (by omega))
 ·have hc:inR r.f0 1 4 = false:=inR_false.2 (by omega)
  rw [hc,Bool.false_and]
  rfl
def putRawsOf:List S119→List S122→Nat→List S122×Nat
 | [],d,n => (d,n)
 | r::t,d,n => if (putRaw1 d r).2 = true then putRawsOf t (putRaw1 d r).1 (n + 1) else (d,n)
theorem putRaw1_ok {d:List S122} {r:S119} (h:(putRaw1 d r).2 = true):Z0B (putRaw1 d r).1 = true:=by
 unfold putRaw1 at h ⊢
 split at h
 ·rename_i h1
  rw [if_pos h1]
  split at h
  ·rename_i h2;rw [if_pos h2];exact h2
  ·cases h
 ·cases h
theorem spec_PutRaws_loop (l:List S119) (hl:l.length≤1048576) (h3:∀ r∈l,r.f3.size≤1000000000):∀ (rest:List S119) (n:Nat) (d:List S122),l.drop n = rest→n≤l.length→Z0B d = true→Ev (fun k => Zl.l0 k l (n:Int) d) ((putRawsOf rest d n).1,((putRawsOf rest d n).2:Int)):=by
 intro rest
 induction rest with
 | nil =>
  intro n d h hn hd
  have:=ZA h
  refine Ev.step (fun _ => rfl) ?_
  simp only [Zl.l0,putRawsOf]
  exact Ev.neg (by omega) (Ev.done (by rw [show l.length = n by omega]))
 | cons x t ih =>
  intro n d h hn hd
  obtain ⟨h1,-,h4⟩:=Zg h
  have hx:=h3 x (List.mem_of_mem_drop (h ▸ List.mem_cons_self))
  refine Ev.step (fun _ => rfl) ?_
  simp only [Zl.l0,rdT119_drop h,Z4 (show n≤9223372036854775806 by omega)]
  rw [putRawsOf]
  refine Ev.pos (by omega) (Ev.pos (by omega) (Ev.bind (spec_PutRaw_ev d hd x hx) (Ev.ite (fun hc => ?_) (fun hc => Ev.done (by rw [if_neg hc])))))
  rw [if_pos hc]
  exact ih (n + 1) _ h4 (by omega) (putRaw1_ok hc)
def Z0m (d:List S122) (l:List S119):List S122×Int:=if (Z0B d && decide (l.length≤60)) = true then ((putRawsOf l d 0).1,((putRawsOf l d 0).2:Int)) else ([],0)
theorem spec_PutRaws_ev (d:List S122) (hd:d.length≤1048576) (l:List S119) (hl:l.length≤1048576) (h3:∀ r∈l,r.f3.size≤1000000000):Ev (fun k => Zl.f k d l) (Z0m d l):=by
 have no:Ev (fun k => Zl.j0 k l true d) ([],0):=by
  refine Ev.step (fun _ => rfl) ?_
  simp only [Zl.j0]
  exact Ev.pos trivial (Ev.now _)
 unfold Zl.f Z0m
 refine Ev.bind (spec_DiskOk_ev d hd) ?_
 cases hk:Z0B d
 ·exact Ev.neg (by simp) (Ev.eq no (by simp))
 refine Ev.pos rfl ?_
 by_cases hc:l.length≤60
 ·rw [decide_eq_false (show ¬ (l.length:Int) > 60 by omega),decide_eq_true hc]
  refine Ev.step (fun _ => rfl) ?_
  simp only [Zl.j0]
  have hdl:=(diskOk_up hk).1
  refine Ev.neg (by simp) (Ev.call rfl (Ev.pos (by simp;omega) ?_))
  rw [List.nil_append]
  exact Ev.eq (spec_PutRaws_loop l hl h3 l 0 d rfl (by omega) hk) (by simp)
 ·rw [decide_eq_true (show (l.length:Int) > 60 by omega),decide_eq_false hc]
  exact Ev.eq no (by simp)
theorem impl_PutRaws_loop (l:List S119) (hl:l.length≤1048576) (h3:∀ r∈l,r.f3.size≤1000000000) (z:List S122):∀ (rest:List S119) (n:Nat) (d:List S122),l.drop n = rest→n≤l.length→Z0B d = true→Ev (fun k => Z0Z.l0 k l l (l.length:Int) (n:Int) z d) ((putRawsOf rest d n).1,((putRawsOf rest d n).2:Int)):=by
 intro rest
 induction rest with
 | nil =>
  intro n d h hn hd
  have:=ZA h
  refine Ev.step (fun _ => rfl) ?_
  simp only [Z0Z.l0,putRawsOf]
  exact Ev.neg (by omega) (Ev.done (by rw [show l.length = n by omega]))
 | cons x t ih =>
  intro n d h hn hd
  obtain ⟨h1,-,h4⟩:=Zg h
  have hx:=h3 x (List.mem_of_mem_drop (h ▸ List.mem_cons_self))
  refine Ev.step (fun _ => rfl) ?_
  simp only [Z0Z.l0,rdT119_drop h,Z4 (show n≤9223372036854775806 by omega)]
  rw [putRawsOf]
  refine Ev.pos (by omega) (Ev.pos (by omega) (Ev.pos (by omega) (Ev.bind (impl_PutRaw_ev d hd x hx) (Ev.ite (fun hc => ?_) (fun hc => Ev.done (by rw [if_neg hc]))))))
  rw [if_pos hc]
  exact ih (n + 1) _ h4 (by omega) (putRaw1_ok hc)
theorem impl_PutRaws_ev (d:List S122) (hd:d.length≤1048576) (l:List S119) (hl:l.length≤1048576) (h3:∀ r∈l,r.f3.size≤1000000000):Ev (fun k => Z0Z.f k d l) (Z0m d l):=by
 unfold Z0Z.f Z0m
 refine Ev.bind (impl_DiskOk_ev d hd) ?_
 cases hk:Z0B d
 ·exact Ev.neg (by simp) (Ev.done (by simp))
 refine Ev.pos rfl (Ev.ite (fun hc => Ev.done ?_) (fun hc => ?_))
 ·rw [decide_eq_false (show ¬ l.length≤60 by omega)];simp
 ·have hdl:=(diskOk_up hk).1
  rw [decide_eq_true (show l.length≤60 by omega)]
  refine Ev.call (by unfold Z0L.f;rw [if_pos (by omega),List.nil_append]) ?_
  exact Ev.eq (impl_PutRaws_loop l hl h3 [] l 0 d rfl (by omega) hk) (by simp)
def openIs (rb:RBf) (rm:RMf) (d:List S122) (s0:List Int) (a b c:Int) (s4:List Int) (dir:List S145) (st:Int):Bool :=
 decide ((ZU rb rm d).2.2.2.2.2.2.2.2 = 0) && (decide ((ZU rb rm d).2.2.2.2.2.2.2.1 = []) && shelfEq s0 a b c s4 dir st (ZU rb rm d).1 (ZU rb rm d).2.1 (ZU rb rm d).2.2.1 (ZU rb rm d).2.2.2.1 (ZU rb rm d).2.2.2.2.1 (ZU rb rm d).2.2.2.2.2.1 (ZU rb rm d).2.2.2.2.2.2.1)
theorem raws_nil {l:List S119}:(l.length:Int) = 0↔l = []:=by rw [←List.length_eq_zero_iff];omega
theorem spec_l09Clean_ev (rb:RBf) (hrb:∀ c,c.size≤9000→RB c (rb c)) (rm:RMf) (hrm:∀ s,s.size≤1000000→RM s (rm s)) (d:List S122) (hl:d.length≤1048576) (s0:List Int) (a b c:Int) (s4:List Int) (dir:List S145) (st:Int) (h0:s0.length≤1048576) (h4:s4.length≤1048576) (h5:dir.length≤1048576):Ev (fun k => spec_l09Clean.f k d s0 a b c s4 dir st) (openIs rb rm d s0 a b c s4 dir st):=by
 unfold spec_l09Clean.f openIs
 refine Ev.bind (spec_OpenShelf_ev rb hrb rm hrm d hl) (Ev.ite (fun e1 => Ev.ite (fun e2 => Ev.bind (spec_l09Same_ev s0 a b c s4 dir st _ _ _ _ _ _ _ (by omega) (by omega) (by omega)) (Ev.done ?_)) (fun e2 => Ev.done ?_)) (fun e1 => Ev.done ?_))
 ·rw [decide_eq_true e1,decide_eq_true (raws_nil.1 e2)];simp
 ·rw [decide_eq_false (fun h => e2 (raws_nil.2 h))];simp
 ·rw [decide_eq_false e1];simp
theorem impl_isOpen_ev (rb:RBf) (hrb:∀ c,c.size≤9000→RB c (rb c)) (rm:RMf) (hrm:∀ s,s.size≤1000000→RM s (rm s)) (d:List S122) (hl:d.length≤1048576) (s0:List Int) (a b c:Int) (s4:List Int) (dir:List S145) (st:Int):Ev (fun k => impl_isOpen.f k d s0 a b c s4 dir st) (openIs rb rm d s0 a b c s4 dir st):=by
 obtain ⟨w0,w4,w5,-⟩:=shelfOf_small (rb:=rb) hrm d
 unfold impl_isOpen.f openIs
 refine Ev.bind (impl_OpenShelf_ev rb hrb rm hrm d hl) (Ev.ite (fun e1 => Ev.ite (fun e2 => Ev.bind (impl_sameShelf_ev _ _ _ _ _ _ _ s0 a b c s4 dir st (by omega) (by omega) (by omega)) (Ev.done ?_)) (fun e2 => Ev.done ?_)) (fun e1 => Ev.done ?_))
 ·rw [decide_eq_true e1,decide_eq_true (raws_nil.1 e2),shelfEq_symm];simp
 ·rw [decide_eq_false (fun h => e2 (raws_nil.2 h))];simp
 ·rw [decide_eq_false e1];simp
abbrev Aft:=List Int×Int×Int×Int×List Int×List S145×Int×List S119×Bool
def noAft:Aft:=([],0,0,0,[],[],0,[],false)
def afterOf (rb:RBf) (rm:RMf) (d:List S122) (l:List S119):Aft :=
 if (Z0m d l).2 = (l.length:Int)∧(ZU rb rm (Z0m d l).1).2.2.2.2.2.2.2.2 = 0∧(ZU rb rm (Z0m d l).1).2.2.2.2.2.2.2.1 = [] then
  ((ZU rb rm (Z0m d l).1).1,(ZU rb rm (Z0m d l).1).2.1,(ZU rb rm (Z0m d l).1).2.2.1,(ZU rb rm (Z0m d l).1).2.2.2.1,(ZU rb rm (Z0m d l).1).2.2.2.2.1,(ZU rb rm (Z0m d l).1).2.2.2.2.2.1,(ZU rb rm (Z0m d l).1).2.2.2.2.2.2.1,l,true)
 else noAft
theorem putRawsOf_bounds:∀ (l:List S119) (d:List S122) (n:Nat),Z0B d = true→Z0B (putRawsOf l d n).1 = true∧(putRawsOf l d n).2≤n + l.length
 | [],d,n,h => ⟨h,by simp [putRawsOf]⟩
 | r::t,d,n,h => by
  rw [putRawsOf]
  split
  ·rename_i hc
   have:=putRawsOf_bounds t (putRaw1 d r).1 (n + 1) (putRaw1_ok hc)
   refine ⟨this.1,?_⟩
   have:=this.2
   simp only [List.length_cons];omega
  ·exact ⟨h,by simp⟩
theorem putRaws_bounds (d:List S122) (l:List S119):(Z0m d l).1.length≤30∧0≤(Z0m d l).2∧(Z0m d l).2≤(l.length:Int):=by
 unfold Z0m
 split
 ·rename_i h
  simp only [Bool.and_eq_true] at h
  obtain ⟨h1,h2⟩:=putRawsOf_bounds l d 0 h.1
  have:=(diskOk_up h1).1
  dsimp only
  omega
 ·simp
theorem spec_l09After_ev (rb:RBf) (hrb:∀ c,c.size≤9000→RB c (rb c)) (rm:RMf) (hrm:∀ s,s.size≤1000000→RM s (rm s)) (d:List S122) (hl:d.length≤1048576) (l:List S119) (hll:l.length≤1048576) (h3:∀ r∈l,r.f3.size≤1000000000):∃ z,Ev (fun k => spec_l09After.f k d l) z∧z.2.2.2.2.2.2.2 = (afterOf rb rm d l).2.2.2.2.2.2.2.2∧(z.2.2.2.2.2.2.2 = true→afterOf rb rm d l = (z.1,z.2.1,z.2.2.1,z.2.2.2.1,z.2.2.2.2.1,z.2.2.2.2.2.1,z.2.2.2.2.2.2.1,l,true)):=by
 obtain ⟨p1,p2,p3⟩:=putRaws_bounds d l
 have hp:=spec_PutRaws_ev d hl l hll h3
 have ho:=spec_OpenShelf_ev rb hrb rm hrm (Z0m d l).1 (by omega)
 unfold spec_l09After.f afterOf
 by_cases e1:(Z0m d l).2 = (l.length:Int)
 ·by_cases e2:(ZU rb rm (Z0m d l).1).2.2.2.2.2.2.2.2 = 0
  ·refine ⟨_,Ev.bind hp (Ev.pos e1 (Ev.bind ho (Ev.pos e2 (Ev.now _)))),?_,?_⟩
   ·by_cases e3:(ZU rb rm (Z0m d l).1).2.2.2.2.2.2.2.1 = []
    ·rw [if_pos ⟨e1,e2,e3⟩,e3];rfl
    ·rw [if_neg (fun h => e3 h.2.2)]
     show ((_:Int) == 0) = false
     rw [beq_eq_false_iff_ne]
     exact fun h => e3 (raws_nil.1 h)
   ·intro h
    have e3:=raws_nil.1 (by simpa using h)
    rw [if_pos ⟨e1,e2,e3⟩]
  ·refine ⟨_,Ev.bind hp (Ev.pos e1 (Ev.bind ho (Ev.neg e2 (Ev.now _)))),?_,fun h => by cases h⟩
   rw [if_neg (fun h => e2 h.2.1)];rfl
 ·refine ⟨_,Ev.bind hp (Ev.neg e1 (Ev.now _)),?_,fun h => by cases h⟩
  rw [if_neg (fun h => e1 h.1)];rfl
theorem impl_behind_ev (rb:RBf) (hrb:∀ c,c.size≤9000→RB c (rb c)) (rm:RMf) (hrm:∀ s,s.size≤1000000→RM s (rm s)) (d:List S122) (hl:d.length≤1048576) (l:List S119) (hll:l.length≤1048576) (h3:∀ r∈l,r.f3.size≤1000000000):Ev (fun k => impl_behind.f k d l) (afterOf rb rm d l):=by
 obtain ⟨p1,p2,p3⟩:=putRaws_bounds d l
 unfold impl_behind.f afterOf
 refine Ev.bind (impl_PutRaws_ev d hl l hll h3) (Ev.bind (impl_OpenShelf_ev rb hrb rm hrm (Z0m d l).1 (by omega)) (Ev.ite (fun e1 => Ev.done ?_) (fun e1 => Ev.ite (fun e2 => Ev.ite (fun e3 => Ev.done ?_) (fun e3 => Ev.done ?_)) (fun e2 => Ev.done ?_))))
 ·rw [if_neg (fun h => by have:=h.1;omega)];rfl
 ·rw [if_neg (fun h => by rw [h.2.2] at e3;simp at e3)];rfl
 ·rw [if_pos ⟨by omega,e2,raws_nil.1 (by omega)⟩]
 ·rw [if_neg (fun h => e2 h.2.1)];rfl
theorem rise_snoc (lo hi:Int):∀ (l:List Int) (p:Option Int),rise lo hi p l = true→(∀ q,p = some q→q≤hi)→lo≤hi + 1→rise lo (hi + 1) p (l++[hi + 1]) = true
 | [],none,_,_,h => by simp only [List.nil_append,rise];rw [Zu.2 (by omega)];rfl
 | [],some q,_,hq,h => by
  have:=hq q rfl
  simp only [List.nil_append,rise]
  rw [Zu.2 (by omega),decide_eq_true (by omega)];rfl
 | x::t,none,hr,_,h => by
  simp only [rise,Bool.and_eq_true] at hr
  have hx:=Zu.1 hr.1
  rw [List.cons_append,rise,Zu.2 (by omega),rise_snoc lo hi t (some x) hr.2 (fun q e => by injection e with e;omega) h];rfl
 | x::t,some p,hr,_,h => by
  simp only [rise,Bool.and_eq_true] at hr
  have hx:=Zu.1 hr.1
  rw [List.cons_append,rise,Zu.2 (by omega),hr.2.1,rise_snoc lo hi t (some x) hr.2.2 (fun q e => by injection e with e;omega) h];rfl
theorem manOk_next {segs:List Int} {nx ba bt:Int} {cf:List Int} (h:manOk segs nx ba bt cf = true) (h8:segs.length < 8) (hn:nx≤999):manOk (segs++[nx]) (nx + 1) ba bt cf = true:=by
 simp only [manOk,Bool.and_eq_true] at h ⊢
 obtain ⟨h1,h2,h3,h4,h5,h6⟩:=h
 have h2:=Zu.1 h2
 have e:=rise_snoc 0 (nx - 1) segs none h3 (fun q e => by cases e) (by omega)
 rw [show nx - 1 + 1 = nx by omega] at e
 refine ⟨Zu.2 (by rw [List.length_append,List.length_singleton];omega),Zu.2 (by omega),?_,h4,h5,h6⟩
 rw [show nx + 1 - 1 = nx by omega]
 exact e
theorem changeBytes_le {x:S162} (h:(1≤x.f0.size∧x.f0.size≤10)∧x.f1.size≤40):(Z0V x).length≤61:=by
 have v0:=varL_len (show x.f0.size≤34359738367 by omega)
 have v1:=varL_len (show x.f1.size≤34359738367 by omega)
 unfold Z0V sh
 simp only [List.length_append,List.length_cons,Zk]
 omega
theorem batchText_size (st:Int) (l:List S162):(Z7 st l).1.size≤4000:=by
 cases h:(Z7 st l).2
 ·unfold Z7 at h ⊢
  split at h
  ·cases h
  ·rename_i h1;rw [if_neg h1];exact Nat.zero_le _
 ·obtain ⟨hk,hb⟩:=batch_parts (s:=(Z7 st l).1) (Prod.ext rfl h)
  obtain ⟨b1,b2,b3⟩:=Z0Q hk
  have v0:=varL_len (show st.toNat≤34359738367 by omega)
  have v1:=varL_len (show l.length≤34359738367 by omega)
  have hf:∀ (l:List S162),(∀ x∈l,(1≤x.f0.size∧x.f0.size≤10)∧x.f1.size≤40)→(l.flatMap Z0V).length≤61 * l.length:=by
   intro l hl
   induction l with
   | nil => simp
   | cons x t ih =>
    have:=changeBytes_le (hl x List.mem_cons_self)
    have:=ih (fun y hy => hl y (List.mem_cons_of_mem _ hy))
    rw [List.flatMap_cons,List.length_append,List.length_cons]
    omega
  have hf:=hf l b3
  have hz:(Z7 st l).1.size = (bytesOf (Z7 st l).1).length:=(Zk _).symm
  rw [hb] at hz
  simp only [List.length_append] at hz
  omega
theorem manText_ok {segs:List Int} {nx ba bt:Int} {cf:List Int} (h:manOk segs nx ba bt cf = true):(Z0N segs nx ba bt cf).2 = true:=by
 obtain ⟨b1,b2,b3,b4,b5,b6,b7⟩:=Z0b h
 have hf:∀ (l:List Int),(∀ x∈l,0≤x∧x≤1000000)→(l.flatMap fun n => varL n.toNat).length≤5 * l.length:=by
  intro l hl
  induction l with
  | nil => simp
  | cons x t ih =>
   have hx:=hl x List.mem_cons_self
   have:=varL_len (show x.toNat≤34359738367 by omega)
   have:=ih (fun y hy => hl y (List.mem_cons_of_mem _ hy))
   rw [List.flatMap_cons,List.length_append,List.length_cons]
   omega
 have hn:(manNums segs nx ba bt cf).length = segs.length + cf.length + 5:=by simp only [manNums,List.length_cons,List.length_append];omega
 have hf:=hf (manNums segs nx ba bt cf) (fun x hx => by
  simp only [manNums,List.mem_cons,List.mem_append] at hx
  rcases hx with rfl | hx | rfl | rfl | rfl | rfl | hx
  ·omega
  ·have:=b6 x hx;omega
  ·omega
  ·omega
  ·omega
  ·omega
  ·have:=b7 x hx;omega)
 unfold Z0N
 rw [if_pos h]
 unfold sealT
 rw [if_neg (by rw [strOfNums_size];omega)]
theorem batchText_frame {st:Int} {l:List S162} (h:(Z7 st l).2 = true):(frame (Z7 st l).1).2 = true:=by
 obtain ⟨hk,hb⟩:=batch_parts (s:=(Z7 st l).1) (Prod.ext rfl h)
 obtain ⟨b1,b2,b3⟩:=Z0Q hk
 have v0:=varL_len (show st.toNat≤34359738367 by omega)
 have v1:=varL_len (show l.length≤34359738367 by omega)
 have p0:=varL_pos st.toNat
 have hf:∀ (l:List S162),(∀ x∈l,(1≤x.f0.size∧x.f0.size≤10)∧x.f1.size≤40)→(l.flatMap Z0V).length≤61 * l.length:=by
  intro l hl
  induction l with
  | nil => simp
  | cons x t ih =>
   have:=changeBytes_le (hl x List.mem_cons_self)
   have:=ih (fun y hy => hl y (List.mem_cons_of_mem _ hy))
   rw [List.flatMap_cons,List.length_append,List.length_cons]
   omega
 have hf:=hf l b3
 have hz:(Z7 st l).1.size = (bytesOf (Z7 st l).1).length:=(Zk _).symm
 rw [hb] at hz
 simp only [List.length_append] at hz
 unfold frame
 rw [if_pos (Zu.2 (by omega))]
theorem openIs_good {rb:RBf} {rm:RMf} (hrm:∀ s,s.size≤1000000→RM s (rm s)) {d:List S122} {s0:List Int} {a b c:Int} {s4:List Int} {dir:List S145} {st:Int} (h:openIs rb rm d s0 a b c s4 dir st = true):Z0B d = true∧manOk s0 a b c s4 = true∧dirOk dir = true:=by
 unfold openIs at h
 simp only [Bool.and_eq_true,decide_eq_true_iff] at h
 obtain ⟨e1,e2,e3⟩:=h
 obtain ⟨g1,g2,g3⟩:=shelf_good hrm e1
 obtain ⟨-,q0,q1,q2,q3,q4,q5⟩:=shelfEq_true e3
 rw [←q0,←q1,←q2,←q3,←q4] at g2
 rw [←q5] at g3
 exact ⟨g1,g2,g3⟩
theorem manText_size {segs:List Int} {nx ba bt:Int} {cf:List Int}:(Z0N segs nx ba bt cf).1.size≤20004:=by
 unfold Z0N
 split
 ·unfold sealT
  split
  ·exact Nat.zero_le _
  ·have:=four_size (sumOf (strOfNums ((manNums segs nx ba bt cf).flatMap fun n => varL n.toNat)))
   dsimp only
   rw [size_append];omega
 ·exact Nat.zero_le _
def Z0G (d:List S122) (s0:List Int) (a b c:Int) (s4:List Int) (f:ByteArray):List S119 :=
 if ((ZD (segT (lastOf s0)) d).size:Int)≥500∧s0.length < 8∧a≤999 then
  [⟨1,segT a,⟨#[]⟩,f⟩,⟨1,⟨#[109,43]⟩,⟨#[]⟩,(Z0N (s0++[a]) (a + 1) b c s4).1⟩,⟨3,⟨#[109,43]⟩,⟨#[109]⟩,⟨#[]⟩⟩]
 else [⟨2,segT (lastOf s0),⟨#[]⟩,f⟩]
def addOf (rb:RBf) (rm:RMf) (d:List S122) (s0:List Int) (a b c:Int) (s4:List Int) (dir:List S145) (st bs:Int) (bl:List S162):Aft :=
 if (Z7 bs bl).2 = true∧openIs rb rm d s0 a b c s4 dir st = true∧¬ bs < st then afterOf rb rm d (Z0G d s0 a b c s4 (frame (Z7 bs bl).1).1) else noAft
theorem addList_small (d:List S122) (s0:List Int) (a b c:Int) (s4:List Int) (s:ByteArray):(Z0G d s0 a b c s4 (frame s).1).length≤3∧∀ r∈Z0G d s0 a b c s4 (frame s).1,r.f3.size≤1000000000:=by
 have hf:=frame_le8 s
 have hm:=manText_size (segs:=s0++[a]) (nx:=a + 1) (ba:=b) (bt:=c) (cf:=s4)
 unfold Z0G
 split
 ·refine ⟨by simp,fun r hr => ?_⟩
  simp only [List.mem_cons,List.not_mem_nil,or_false] at hr
  rcases hr with rfl | rfl | rfl
  ·dsimp only;omega
  ·dsimp only;omega
  ·exact Nat.zero_le _
 ·refine ⟨by simp,fun r hr => ?_⟩
  simp only [List.mem_cons,List.not_mem_nil,or_false] at hr
  subst hr
  dsimp only;omega
theorem impl_renewed_ev (segs:List Int) (nx ba bt:Int) (cf:List Int) (hs:segs.length≤1000000) (hc:cf.length≤1000000):Ev (fun k => impl_renewed.f k segs nx ba bt cf) ([⟨1,⟨#[109,43]⟩,⟨#[]⟩,(Z0N segs nx ba bt cf).1⟩,⟨3,⟨#[109,43]⟩,⟨#[109]⟩,⟨#[]⟩⟩],(Z0N segs nx ba bt cf).2):=by
 unfold impl_renewed.f
 exact Ev.bind (impl_ManifestText_ev segs nx ba bt cf (by omega) (by omega)) (Ev.now _)
theorem impl_AddBatch_ev (rb:RBf) (hrb:∀ c,c.size≤9000→RB c (rb c)) (rm:RMf) (hrm:∀ s,s.size≤1000000→RM s (rm s)) (d:List S122) (hl:d.length≤1048576) (s0:List Int) (a b c:Int) (s4:List Int) (dir:List S145) (st bs:Int) (bl:List S162) (hbl:bl.length≤1048576):Ev (fun k => impl_AddBatch.f k d s0 a b c s4 dir st bs bl) (addOf rb rm d s0 a b c s4 dir st bs bl):=by
 obtain ⟨t,ht⟩:∃ t,t = Z7 bs bl:=⟨_,rfl⟩
 have hts:t.1.size≤1000000000:=by have:=batchText_size bs bl;rw [ht];omega
 unfold impl_AddBatch.f addOf
 rw [←ht]
 refine Ev.bind (Ev.eq (impl_BatchText_ev bs bl hbl) ht.symm) (Ev.bind (impl_Frame_ev t.1 (by omega)) (Ev.bind (impl_isOpen_ev rb hrb rm hrm d hl s0 a b c s4 dir st) (Ev.ite (fun e1 => Ev.ite (fun e2 => ?_) (fun e2 => Ev.done ?_)) (fun e1 => Ev.done ?_))))
 ·have hf:(frame t.1).2 = true:=by rw [ht] at e2 ⊢;exact batchText_frame e2
  refine Ev.pos hf (Ev.ite (fun e3 => Ev.done ?_) (fun e3 => ?_))
  ·rw [if_neg (fun h => h.2.2 e3)];rfl
  rw [if_pos ⟨e2,e1,e3⟩]
  obtain ⟨g1,g2,g3⟩:=openIs_good hrm e1
  obtain ⟨b1,b2,-,-,b5,-,-⟩:=Z0b g2
  obtain ⟨m1,m2⟩:=addList_small d s0 a b c s4 t.1
  have hb:=impl_behind_ev rb hrb rm hrm d hl (Z0G d s0 a b c s4 (frame t.1).1) (by omega) m2
  rw [Z9 (n:=(s0.length:Int) - 1) (by omega) (by omega)]
  refine Ev.pos (by omega) (Ev.pos (by omega) (Ev.call (Z0O _) (Ev.bind (impl_FileAt_ev d g1 _) ?_)))
  change Ev (fun k => if ((ZD (segT (lastOf s0)) d).size:Int) < 500 then _ else _) _
  refine Ev.ite (fun e4 => ?_) (fun e4 => Ev.ite (fun e5 => ?_) (fun e5 => Ev.ite (fun e6 => ?_) (fun e6 => ?_)))
  ·have ea:Z0G d s0 a b c s4 (frame t.1).1 = [⟨2,segT (lastOf s0),⟨#[]⟩,(frame t.1).1⟩]:=by unfold Z0G;rw [if_neg (fun h => by have:=h.1;omega)]
   rw [ea] at hb ⊢
   exact Ev.call (Z0O _) (Ev.bind hb (Ev.now _))
  ·have ea:Z0G d s0 a b c s4 (frame t.1).1 = [⟨2,segT (lastOf s0),⟨#[]⟩,(frame t.1).1⟩]:=by unfold Z0G;rw [if_neg (fun h => by have:=h.2.1;omega)]
   rw [ea] at hb ⊢
   exact Ev.call (Z0O _) (Ev.bind hb (Ev.now _))
  ·have ea:Z0G d s0 a b c s4 (frame t.1).1 = [⟨2,segT (lastOf s0),⟨#[]⟩,(frame t.1).1⟩]:=by unfold Z0G;rw [if_neg (fun h => by have:=h.2.2;omega)]
   rw [ea] at hb ⊢
   exact Ev.call (Z0O _) (Ev.bind hb (Ev.now _))
  ·have ea:Z0G d s0 a b c s4 (frame t.1).1 = [⟨1,segT a,⟨#[]⟩,(frame t.1).1⟩,⟨1,⟨#[109,43]⟩,⟨#[]⟩,(Z0N (s0++[a]) (a + 1) b c s4).1⟩,⟨3,⟨#[109,43]⟩,⟨#[109]⟩,⟨#[]⟩⟩]:=by unfold Z0G;rw [if_pos ⟨by omega,by omega,by omega⟩]
   rw [ea] at hb ⊢
   have hk:=manOk_next g2 (by omega) (by omega)
   refine Ev.call (a:=(s0,a,b,c,s4)) (by unfold impl_copyManifest.f;rw [if_pos (by omega),if_pos (by omega),List.nil_append,List.nil_append]) (Ev.pos (by dsimp only;omega) ?_)
   dsimp only
   rw [Z9 (n:=a + 1) (by omega) (by omega)]
   have hok:=manText_ok hk
   refine Ev.bind (impl_renewed_ev (s0++[a]) (a + 1) b c s4 (by simp;omega) (by omega)) (Ev.pos hok (Ev.call (Z0O _) (Ev.pos (by simp) (Ev.bind hb (Ev.now _)))))
 ·rw [if_neg (fun h => e2 h.1)];rfl
 ·rw [if_neg (fun h => e1 h.2.1)];rfl
theorem spec_AddBatch_ev (rb:RBf) (hrb:∀ c,c.size≤9000→RB c (rb c)) (rm:RMf) (hrm:∀ s,s.size≤1000000→RM s (rm s)) (d:List S122) (hl:d.length≤1048576) (s0:List Int) (a b c:Int) (s4:List Int) (dir:List S145) (st bs:Int) (bl:List S162) (hbl:bl.length≤1048576) (h0:s0.length≤1048576) (h4:s4.length≤1048576) (h5:dir.length≤1048576):Ev (fun k => Za.f k d s0 a b c s4 dir st bs bl) (addOf rb rm d s0 a b c s4 dir st bs bl):=by
 obtain ⟨t,ht⟩:∃ t,t = Z7 bs bl:=⟨_,rfl⟩
 have hts:t.1.size≤1000000000:=by have:=batchText_size bs bl;rw [ht];omega
 have no:∀ r:Aft,r = noAft→Ev (fun k => Za.j0 k t.1 true d s0 a b c s4 dir st) r:=fun r hr => by
  refine Ev.step (fun _ => rfl) ?_
  simp only [Za.j0]
  exact Ev.pos trivial (Ev.done hr.symm)
 unfold Za.f addOf
 rw [←ht]
 refine Ev.bind (Ev.eq (spec_BatchText_ev bs bl hbl) ht.symm) (Ev.ite (fun e2 => Ev.bind (spec_l09Clean_ev rb hrb rm hrm d hl s0 a b c s4 dir st h0 h4 h5) (Ev.ite (fun e1 => ?_) (fun e1 => no _ ?_))) (fun e2 => no _ ?_))
 ·refine Ev.step (fun _ => rfl) ?_
  simp only [Za.j0]
  refine Ev.ite (fun e3 => Ev.done ?_) (fun e3 => ?_)
  ·rw [if_neg (fun h => h.2.2 (of_decide_eq_true e3))];rfl
  rw [if_pos ⟨e2,e1,fun h => e3 (decide_eq_true h)⟩]
  obtain ⟨g1,g2,g3⟩:=openIs_good hrm e1
  obtain ⟨b1,b2,-,-,b5,-,-⟩:=Z0b g2
  obtain ⟨hdl,hdu⟩:=diskOk_up g1
  obtain ⟨m1,m2⟩:=addList_small d s0 a b c s4 t.1
  obtain ⟨z,hz,hz1,hz2⟩:=spec_l09After_ev rb hrb rm hrm d hl (Z0G d s0 a b c s4 (frame t.1).1) (by omega) m2
  have fin:∀ r:Aft,r = afterOf rb rm d (Z0G d s0 a b c s4 (frame t.1).1)→Ev (fun k => if z.2.2.2.2.2.2.2 = true then some (z.1,z.2.1,z.2.2.1,z.2.2.2.1,z.2.2.2.2.1,z.2.2.2.2.2.1,z.2.2.2.2.2.2.1,Z0G d s0 a b c s4 (frame t.1).1,true) else some noAft) r:=fun r hr => by
   subst hr
   refine Ev.ite (fun h => Ev.done (hz2 h).symm) (fun h => Ev.done ?_)
   unfold afterOf at hz1 ⊢
   split at hz1
   ·exact absurd hz1 h
   ·rename_i hn;rw [if_neg hn]
  have hcp:spec_l09CopyMan.f s0 a b c s4 = some (s0,a,b,c,s4):=by
   unfold spec_l09CopyMan.f
   rw [Option.bind_some,if_pos (by simp;omega),Option.bind_some,if_pos (by simp;omega),List.nil_append,List.nil_append]
  have goF:Z0G d s0 a b c s4 (frame t.1).1 = [⟨2,segT (lastOf s0),⟨#[]⟩,(frame t.1).1⟩]→Ev (fun k => Za.j1 k (frame t.1).1 [⟨2,segT (lastOf s0),⟨#[]⟩,(frame t.1).1⟩] false d s0 a b c s4) (afterOf rb rm d (Z0G d s0 a b c s4 (frame t.1).1)):=fun ea => by
   refine Ev.step (fun _ => rfl) ?_
   simp only [Za.j1]
   rw [ea] at hz fin
   refine Ev.neg (by simp) (Ev.bind hz ?_)
   rw [ea]
   exact fin _ rfl
  have goT:Z0G d s0 a b c s4 (frame t.1).1 = [⟨1,segT a,⟨#[]⟩,(frame t.1).1⟩,⟨1,⟨#[109,43]⟩,⟨#[]⟩,(Z0N (s0++[a]) (a + 1) b c s4).1⟩,⟨3,⟨#[109,43]⟩,⟨#[109]⟩,⟨#[]⟩⟩]→Ev (fun k => Za.j1 k (frame t.1).1 [⟨2,segT (lastOf s0),⟨#[]⟩,(frame t.1).1⟩] true d s0 a b c s4) (afterOf rb rm d (Z0G d s0 a b c s4 (frame t.1).1)):=fun ea => by
   refine Ev.step (fun _ => rfl) ?_
   simp only [Za.j1]
   rw [Z9 (n:=a + 1) (by omega) (by omega)]
   have hn:Ev (fun k => spec_l09NewMan.f k (s0++[a]) (a + 1) b c s4) ([⟨1,⟨#[109,43]⟩,⟨#[]⟩,(Z0N (s0++[a]) (a + 1) b c s4).1⟩,⟨3,⟨#[109,43]⟩,⟨#[109]⟩,⟨#[]⟩⟩],(Z0N (s0++[a]) (a + 1) b c s4).2):=by
    unfold spec_l09NewMan.f
    exact Ev.bind (Z0E _ _ _ _ _ (by simp;omega) (by omega)) (Ev.now _)
   rw [ea] at hz fin
   refine Ev.pos trivial (Ev.bind (Z15 a) (Ev.call rfl (Ev.pos (by omega) (Ev.bind hn (Ev.pos (by simp) (Ev.call rfl (Ev.bind hz ?_)))))))
   rw [ea]
   exact fin _ rfl
  refine Ev.bind (spec_Frame_ev t.1 (by omega)) (Ev.call hcp ?_)
  dsimp only
  rw [Z9 (n:=(s0.length:Int) - 1) (by omega) (by omega)]
  refine Ev.pos (by omega) (Ev.pos (by omega) (Ev.bind (Z15 _) (Ev.call rfl (Ev.bind (spec_l03Text_ev d hl hdu _) ?_))))
  change Ev (fun k => if ((ZD (segT (lastOf s0)) d).size:Int)≥500 then (if (s0.length:Int) < 8 then Za.j1 k (frame t.1).1 [⟨2,segT (lastOf s0),⟨#[]⟩,(frame t.1).1⟩] (decide (a≤999)) d s0 a b c s4 else Za.j1 k (frame t.1).1 [⟨2,segT (lastOf s0),⟨#[]⟩,(frame t.1).1⟩] false d s0 a b c s4) else Za.j1 k (frame t.1).1 [⟨2,segT (lastOf s0),⟨#[]⟩,(frame t.1).1⟩] false d s0 a b c s4) _
  refine Ev.ite (fun e4 => Ev.ite (fun e5 => ?_) (fun e5 => goF ?_)) (fun e4 => goF ?_)
  ·by_cases e6:a≤999
   ·rw [decide_eq_true e6]
    exact goT (by unfold Z0G;rw [if_pos ⟨e4,by omega,e6⟩])
   ·rw [decide_eq_false e6]
    exact goF (by unfold Z0G;rw [if_neg (fun h => e6 h.2.2)])
  ·unfold Z0G;rw [if_neg (fun h => by have:=h.2.1;omega)]
  ·unfold Z0G;rw [if_neg (fun h => e4 h.1)]
 ·rw [if_neg (fun h => e1 h.2.1)]
 ·rw [if_neg (fun h => e2 h.1)]
def mapIn:Option ByteArray→List S147→Bool
 | _,[] => true
 | p,x::t => inR x.f0.size 1 10 && (keyUp p x.f0 && (decide (x.f1.size≤40) && mapIn (some x.f0) t))
def mapOk (l:List S147):Bool:=decide (l.length≤60) && mapIn none l
def keyOfP (xs:List S147):Nat→Option ByteArray
 | 0 => none
 | n + 1 => some (rd_T147 xs (n:Int)).f0
theorem spec_MapOk_loop (l:List S147) (hl:l.length≤1048576):∀ (rest:List S147) (n:Nat),l.drop n = rest→Ev (fun k => Z1c.l0 k l (n:Int)) (mapIn (keyOfP l n) rest):=by
 intro rest
 induction rest with
 | nil =>
  intro n h
  have:=ZA h
  refine Ev.step (fun _ => rfl) ?_
  simp only [Z1c.l0]
  exact Ev.neg (by omega) (Ev.done (by simp [mapIn]))
 | cons x t ih =>
  intro n h
  obtain ⟨h1,-,h3⟩:=Zg h
  have hk:keyOfP l (n + 1) = some x.f0:=by rw [keyOfP,rdT147_drop h]
  have ih:=ih (n + 1) h3
  rw [hk] at ih
  refine Ev.step (fun _ => rfl) ?_
  simp only [Z1c.l0,rdT147_drop h,Z4 (show n≤9223372036854775806 by omega)]
  refine Ev.pos (by omega) (Ev.pos (by omega) (Ev.call (spec_l05Key_eq _) ?_))
  rw [mapIn]
  cases h0:inR x.f0.size 1 10
  ·exact Ev.neg (by simp) (Ev.done (by simp))
  refine Ev.pos rfl (Ev.ite (fun hc => Ev.done ?_) (fun hc => ?_))
  ·rw [decide_eq_false (show ¬ x.f1.size≤40 by omega)];simp
  rw [decide_eq_true (show x.f1.size≤40 by omega)]
  cases n with
  | zero => exact Ev.neg (by omega) (Ev.eq ih (by simp [keyOfP,keyUp]))
  | succ m =>
   simp only [wrap64_pred (show m≤9223372036854775806 by omega)]
   refine Ev.pos (by omega) (Ev.pos (by omega) (Ev.pos (by omega) (Ev.ite (fun hc => Ev.eq ih ?_) (fun hc => Ev.done ?_))))
   ·simp only [keyOfP,keyUp,hc];simp
   ·simp only [keyOfP,keyUp,Bool.eq_false_iff.2 hc];simp
theorem spec_MapOk_ev (l:List S147) (hl:l.length≤1048576):Ev (fun k => Z1c.f k l) (mapOk l):=by
 unfold Z1c.f mapOk
 refine Ev.ite (fun hc => Ev.done ?_) (fun hc => Ev.eq (spec_MapOk_loop l hl l 0 rfl) ?_)
 ·rw [decide_eq_false (show ¬ l.length≤60 by omega)];rfl
 ·rw [decide_eq_true (show l.length≤60 by omega)];rfl
theorem Ev.uniq {α:Type} {g:Nat→Option α} {a b:α} (h:Ev g a) (k:Ev g b):a = b:=by
 obtain ⟨K,hK⟩:=h
 obtain ⟨M,hM⟩:=k
 have h1:=hK (max K M) (by omega)
 have h2:=hM (max K M) (by omega)
 rw [h1] at h2;exact Option.some.inj h2
theorem rb_text {c:ByteArray} {r:Int×List S162×Bool} (hc:c.size≤9000) (h:RB c r) (ht:r.2.2 = true):Z7 r.1 r.2.1 = (c,true):=by
 obtain ⟨z,hz,hd⟩:=spec_ReadBatch_to c (by omega)
 obtain rfl:=Ev.uniq h.1 hz
 rcases hd with rfl | ⟨st,l,rfl,e⟩
 ·cases ht
 ·exact e
theorem batch_size {st:Int} {l:List S162} {c:ByteArray} (h:Z7 st l = (c,true)):c.size = (Zv st.toNat).size + (Zv l.length).size + (l.flatMap Z0V).length:=by
 obtain ⟨-,hb⟩:=batch_parts h
 have:=congrArg List.length hb
 rw [←bytesOf_varText,←bytesOf_varText] at this
 simp only [List.length_append,Zk] at this
 omega
theorem change_len (x:S162):(Z0V x).length = (ZJ x.f0).size + 1 + (Zv x.f1.size).size + x.f1.size:=by
 have:=short_sz x.f1
 unfold Z0V
 rw [←bytesOf_shortText,←bytesOf_shortText]
 simp only [List.length_append,List.length_cons,Zk]
 omega
theorem spotsAt_in (seg:Int):∀ (l:List S162) (a:Int),∀ x∈spotsAt seg a l,x.f1 = seg∧(x.f3 = -1∨(0≤x.f3∧a≤x.f2∧x.f2 + x.f3≤a + ((l.flatMap Z0V).length:Int)))
 | [],_,x,hx => by cases hx
 | y::t,a,x,hx => by
  have hl:=change_len y
  rw [spotsAt] at hx
  rw [List.flatMap_cons,List.length_append]
  rcases List.mem_cons.1 hx with rfl | hx
  ·split
   ·exact ⟨rfl,.inl rfl⟩
   ·exact ⟨rfl,.inr ⟨by dsimp only;omega,by dsimp only;omega,by dsimp only;omega⟩⟩
  ·obtain ⟨h1,h2⟩:=spotsAt_in seg t _ x hx
   exact ⟨h1,h2.imp_right fun h => by omega⟩
theorem frame_sz {c:ByteArray} (h:1≤c.size∧c.size≤9000):(frame c).1.size = (Zv c.size).size + 4 + c.size:=by
 unfold frame
 rw [if_pos (Zu.2 (by omega))]
 have:=four_size (sumOf c)
 simp only [size_append];omega
theorem scanOn_in (rb:ByteArray→Int×List S162×Bool) (hrb:∀ c,c.size≤9000→RB c (rb c)) (seg:Int):∀ (l:List ByteArray) (a:Int) (r:List S145×List ByteArray×Int),(∀ c∈l,c.size≤9000)→0≤a→∀ x∈(scanOn rb seg a l r).1,x∈r.1∨(x.f1 = seg∧(x.f3 = -1∨(0≤x.f2∧0≤x.f3∧x.f2 + x.f3≤frSum a l)))
 | [],a,r,_,_,x,hx => .inl hx
 | c::t,a,r,h,h0,x,hx => by
  rw [scanOn] at hx
  split at hx
  ·rename_i hk
   have hc:=h c List.mem_cons_self
   have hb:=batch_size (rb_text hc (hrb c hc) hk)
   have hv:=varText_pos (rb c).1.toNat
   have hf:=frame_sz (c:=c) ⟨by omega,hc⟩
   have hg:=(frSum_ge t (a + ((frame c).1.size:Int))).1
   rcases scanOn_in rb hrb seg t _ _ (fun y hy => h y (List.mem_cons_of_mem _ hy)) (by omega) x hx with hx | hx
   ·rcases List.mem_append.1 hx with hx | hx
    ·exact .inl hx
    ·obtain ⟨h1,h2⟩:=spotsAt_in seg _ _ x hx
     refine .inr ⟨h1,h2.imp_right fun h2 => ?_⟩
     rw [frSum];omega
   ·rw [frSum];exact .inr hx
  ·exact .inl hx
theorem unfStep_fr {s:ByteArray} {a b:Int} {c:ByteArray} (h:Z0F s a = some (c,b)):(frame c).2 = true∧a + ((frame c).1.size:Int) = b∧s.extract a.toNat b.toNat = (frame c).1:=by
 obtain ⟨h0,h1,h2,-⟩:=unfStep_some h
 unfold Z0F at h
 split at h
 ·cases h
 split at h
 ·cases h
 split at h
 ·rename_i h3 h4 h5
  simp only [Option.some.injEq,Prod.mk.injEq] at h
  obtain ⟨e1,e2⟩:=h
  rw [e1] at h5
  rw [e2] at h5
  refine ⟨h5.1,?_,h5.2.symm⟩
  rw [h5.2,ByteArray.size_extract];omega
 ·cases h
theorem unfr_sum (s:ByteArray):∀ (m:Nat) (acc:List ByteArray) (a:Int) (l:List ByteArray),(unfr s m acc a).1 = acc++l→frSum a l = (unfr s m acc a).2
 | 0,acc,a,l,h => by
  rw [unfr] at h ⊢
  obtain rfl:l = []:=by simpa using h
  rfl
 | m + 1,acc,a,l,h => by
  rw [unfr] at h ⊢
  cases hs:Z0F s a with
  | none =>
   rw [hs] at h
   obtain rfl:l = []:=by simpa using h
   rfl
  | some x =>
   obtain ⟨c,b⟩:=x
   rw [hs] at h
   dsimp only at h ⊢
   obtain ⟨r,hr⟩:=unfr_acc s m (acc++[c]) b
   have hl:l = c::r:=by
    rw [hr,List.append_assoc] at h
    exact (List.append_cancel_left h).symm
   subst hl
   rw [←unfr_sum s m (acc++[c]) b r hr,frSum,(unfStep_fr hs).2.1]
theorem unframe_sum (s:ByteArray):frSum 0 (ZY s).1 = (ZY s).2∧(ZY s).2≤s.size:=by
 unfold ZY
 split
 ·exact ⟨rfl,by omega⟩
 ·obtain ⟨⟨-,h1⟩,-,-⟩:=unfr_bounds s (s.size + 1) [] 0 (by omega) (by omega) (by simp) (fun c hc => by cases hc)
  exact ⟨unfr_sum s _ [] 0 _ (by simp),h1⟩
theorem segScan_in {rb:RBf} (hrb:∀ c,c.size≤9000→RB c (rb c)) (d:List S122) (n:Int):∀ x∈(Z1a rb d n).1,x.f1 = n∧(x.f3 = -1∨(0≤x.f2∧0≤x.f3∧x.f2 + x.f3≤((ZD (segT n) d).size:Int))):=fun x hx => by
 obtain ⟨u1,u2⟩:=unframe_sum (ZD (segT n) d)
 rcases scanOn_in rb hrb n _ 0 _ (unframe_bounds _).2 (by omega) x hx with h | ⟨h1,h2⟩
 ·cases h
 ·exact ⟨h1,h2.imp_right fun h => by omega⟩
theorem openOn_in {rb:RBf} {d:List S122}:∀ (segs:List Int) (sp:List S145) (st:Int) (r:List S145×Int),openOn rb d segs sp st = some r→∀ x∈r.1,x∈sp∨∃ n∈segs,x∈(Z1a rb d n).1
 | [],sp,st,r,h,x,hx => by
  rw [openOn] at h
  obtain rfl:=Option.some.inj h
  exact .inl hx
 | n::t,sp,st,r,h,x,hx => by
  rw [openOn] at h
  split at h
  ·cases h
  ·rcases openOn_in t _ _ r h x hx with h1 | ⟨m,h1,h2⟩
   ·rcases List.mem_append.1 h1 with h1 | h1
    ·exact .inl h1
    ·exact .inr ⟨n,List.mem_cons_self,h1⟩
   ·exact .inr ⟨m,List.mem_cons_of_mem _ h1,h2⟩
theorem layS_mem {out:List S145} {s x:S145} (h:x∈layS out s):x∈out∨(x = s∧s.f3≠-1):=by
 unfold layS at h
 rcases List.mem_append.1 h with h | h
 ·rcases List.mem_append.1 h with h | h
  ·exact .inl (List.mem_filter.1 h).1
  ·split at h
   ·cases h
   ·rename_i hn;exact .inr ⟨List.mem_singleton.1 h,hn⟩
 ·exact .inl (List.mem_filter.1 h).1
theorem lay_mem:∀ (l d0:List S145),∀ x∈l.foldl layS d0,x∈d0∨(x∈l∧x.f3≠-1)
 | [],d0,x,h => .inl h
 | s::t,d0,x,h => by
  rw [List.foldl_cons] at h
  rcases lay_mem t (layS d0 s) x h with h | ⟨h,hn⟩
  ·rcases layS_mem h with h | ⟨rfl,hn⟩
   ·exact .inl h
   ·exact .inr ⟨List.mem_cons_self,hn⟩
  ·exact .inr ⟨List.mem_cons_of_mem _ h,hn⟩
theorem load_parts {rb:RBf} {rm:RMf} {d:List S122} (h:(Z0H rb rm d).2.2.2.2.2.2.2.2 = 0):Z0B d = true∧(stands (Ze ⟨#[109]⟩) d && (manAt rm d).2.2.2.2.2) = true∧(manAt rm d).1.all (fun n => stands (Ze (segT n)) d) = true∧∃ sp st,openOn rb d (manAt rm d).1 [] (manAt rm d).2.2.1 = some (sp,st)∧dirOk (sp.foldl layS []) = true∧Z0H rb rm d = ((manAt rm d).1,(manAt rm d).2.1,(manAt rm d).2.2.1,(manAt rm d).2.2.2.1,(manAt rm d).2.2.2.2.1,sp.foldl layS [],st,endOf rb d (manAt rm d).1 0,0):=by
 unfold Z0H at h ⊢
 by_cases h1:Z0B d = true
 ·rw [if_pos h1] at h ⊢
  by_cases h2:(stands (Ze ⟨#[109]⟩) d && (manAt rm d).2.2.2.2.2) = true
  ·rw [if_pos h2] at h ⊢
   by_cases h3:(manAt rm d).1.all (fun n => stands (Ze (segT n)) d) = true
   ·rw [if_pos h3] at h ⊢
    cases ho:openOn rb d (manAt rm d).1 [] (manAt rm d).2.2.1 with
    | none => rw [ho] at h;simp [noLoad] at h
    | some x =>
     obtain ⟨sp,st⟩:=x
     rw [ho] at h
     dsimp only at h ⊢
     by_cases h4:dirOk (sp.foldl layS []) = true
     ·exact ⟨h1,h2,h3,sp,st,rfl,h4,by rw [if_pos h4]⟩
     ·rw [if_neg h4] at h;simp [noLoad] at h
   ·rw [if_neg h3] at h;simp [noLoad] at h
  ·rw [if_neg h2] at h;simp [noLoad] at h
 ·rw [if_neg h1] at h;simp [noLoad] at h
theorem dir_lies {rb:RBf} (hrb:∀ c,c.size≤9000→RB c (rb c)) {rm:RMf} {d:List S122} (h:(Z0H rb rm d).2.2.2.2.2.2.2.2 = 0):∀ x∈(Z0H rb rm d).2.2.2.2.2.1,x.f2 + x.f3≤((ZD (segT x.f1) d).size:Int):=by
 obtain ⟨-,-,-,sp,st,ho,-,e⟩:=load_parts h
 rw [e]
 intro x hx
 rcases lay_mem sp [] x hx with hx | ⟨hx,hn⟩
 ·cases hx
 rcases openOn_in _ _ _ _ ho x hx with hx | ⟨n,-,hx⟩
 ·cases hx
 obtain ⟨h1,h2⟩:=segScan_in hrb d n x hx
 rw [h1]
 rcases h2 with h2 | ⟨-,-,h2⟩
 ·exact absurd h2 hn
 ·exact h2
theorem mapRows_all (d:List S122):∀ (l:List S145) (acc:List S147),(∀ x∈l,x.f2 + x.f3≤((ZD (segT x.f1) d).size:Int))→mapRows d l acc = (acc++l.map (pairAt d),true)
 | [],acc,_ => by simp [mapRows]
 | x::t,acc,h => by
  rw [mapRows,if_neg (by have:=h x List.mem_cons_self;omega),mapRows_all d t _ (fun y hy => h y (List.mem_cons_of_mem _ hy))]
  simp
theorem keyUp_eq (p:Option ByteArray) (s:ByteArray):keyUp p s = keyRise p s:=by cases p <;> rfl
theorem mapIn_pairs (d:List S122):∀ (l:List S145) (p:Option ByteArray),dirIn p l = true→mapIn p (l.map (pairAt d)) = true
 | [],_,_ => rfl
 | x::t,p,h => by
  rw [dirIn] at h
  simp only [Bool.and_eq_true] at h
  obtain ⟨h1,h2,h3⟩:=h
  obtain ⟨k0,k1,k2,k3⟩:=spotOk_nums h1
  have hs:(pairAt d x).f1.size≤40:=by unfold pairAt;rw [ByteArray.size_extract];omega
  rw [List.map_cons,mapIn,keyUp_eq]
  simp only [Bool.and_eq_true]
  exact ⟨Zu.2 (by unfold pairAt;dsimp only;omega),h2,decide_eq_true hs,mapIn_pairs d t _ h3⟩
theorem mapOk_pairs {d:List S122} {l:List S145} (h:dirOk l = true):mapOk (l.map (pairAt d)) = true:=by
 rw [dirOk,Bool.and_eq_true] at h
 rw [mapOk,Bool.and_eq_true,List.length_map]
 exact ⟨h.1,mapIn_pairs d l none h.2⟩
def chOf (p:S147):S162:=⟨p.f0,p.f1,false⟩
theorem batchIn_map:∀ (l:List S147) (p:Option ByteArray),mapIn p l = true→batchIn p (l.map chOf) = true
 | [],_,_ => rfl
 | x::t,p,h => by
  rw [mapIn] at h
  simp only [Bool.and_eq_true] at h
  obtain ⟨h1,h2,h3,h4⟩:=h
  rw [List.map_cons,batchIn]
  simp only [Bool.and_eq_true]
  exact ⟨h1,h2,h3,rfl,batchIn_map t _ h4⟩
theorem batchOk_map {l:List S147} {st:Int} (h:mapOk l = true):batchOk st (l.map chOf) = inR st 0 100000:=by
 rw [mapOk,Bool.and_eq_true] at h
 rw [batchOk,List.length_map,h.1,batchIn_map l none h.2,Bool.and_true,Bool.and_true]
theorem scanOn_stamp (rb:ByteArray→Int×List S162×Bool) (hrb:∀ c,c.size≤9000→RB c (rb c)) (seg:Int):∀ (l:List ByteArray) (a:Int) (r:List S145×List ByteArray×Int),(∀ c∈l,c.size≤9000)→r.2.2≤100000→r.2.2≤(scanOn rb seg a l r).2.2∧(scanOn rb seg a l r).2.2≤100000
 | [],a,r,_,h => ⟨Int.le_refl _,h⟩
 | c::t,a,r,h,h0 => by
  rw [scanOn]
  split
  ·rename_i hk
   have hb:=(Z0Q ((hrb c (h c List.mem_cons_self)).2.2 hk)).1
   have hm:r.2.2≤mx r.2.2 (rb c).1∧mx r.2.2 (rb c).1≤100000:=by unfold mx;split <;> omega
   have:=scanOn_stamp rb hrb seg t (a + ((frame c).1.size:Int)) (r.1++spotsAt seg (a + ((frame c).1.size:Int) - (c.size:Int) + ((Zv (rb c).1.toNat).size:Int) + ((Zv (rb c).2.1.length).size:Int)) (rb c).2.1,r.2.1++[c],mx r.2.2 (rb c).1) (fun y hy => h y (List.mem_cons_of_mem _ hy)) hm.2
   exact ⟨Int.le_trans hm.1 this.1,this.2⟩
  ·exact ⟨Int.le_refl _,h0⟩
theorem openOn_stamp {rb:RBf} (hrb:∀ c,c.size≤9000→RB c (rb c)) {d:List S122}:∀ (segs:List Int) (sp:List S145) (st:Int) (r:List S145×Int),openOn rb d segs sp st = some r→st≤100000→st≤r.2∧r.2≤100000
 | [],sp,st,r,h,h0 => by
  rw [openOn] at h
  obtain rfl:=Option.some.inj h
  exact ⟨Int.le_refl _,h0⟩
 | n::t,sp,st,r,h,h0 => by
  rw [openOn] at h
  split at h
  ·cases h
  ·have h1:=scanOn_stamp rb hrb n (ZY (ZD (segT n) d)).1 0 ([],[],-1) (unframe_bounds _).2 (by dsimp only;omega)
   have hm:st≤mx st (Z1a rb d n).2.2∧mx st (Z1a rb d n).2.2≤100000:=by unfold Z1a mx;split <;> omega
   have:=openOn_stamp hrb t _ _ r h hm.2
   exact ⟨Int.le_trans hm.1 this.1,this.2⟩
theorem shelf_lies {rb:RBf} (hrb:∀ c,c.size≤9000→RB c (rb c)) {rm:RMf} (hrm:∀ s,s.size≤1000000→RM s (rm s)) {d:List S122} (h:(ZU rb rm d).2.2.2.2.2.2.2.2 = 0):shelfMap d (ZU rb rm d).2.2.2.2.2.1 = ((ZU rb rm d).2.2.2.2.2.1.map (pairAt d),true)∧(ZU rb rm d).2.2.1≤(ZU rb rm d).2.2.2.2.2.2.1∧(ZU rb rm d).2.2.2.2.2.2.1≤100000:=by
 have hc:=shelf_load h
 obtain ⟨g1,g2,g3⟩:=shelf_good hrm h
 have hl:=dir_lies hrb hc
 obtain ⟨-,-,-,sp,st,ho,-,e⟩:=load_parts hc
 unfold shelfMap
 rw [g1,g3]
 obtain ⟨b1,b2,b3,-⟩:=Z0b g2
 revert g2 b3
 unfold ZU
 rw [if_pos hc]
 intro g2 b3
 refine ⟨by rw [Bool.true_and,if_pos rfl,mapRows_all d _ [] hl,List.nil_append],?_⟩
 rw [e] at b3 ⊢
 exact openOn_stamp hrb _ _ _ _ ho (by dsimp only at b3;omega)
def mapBatch (l:List S147) (st:Int):Int×List S162×Bool:=if (mapOk l && inR st 0 100000) = true then (st,l.map chOf,true) else (0,[],false)
theorem spec_MapBatch_loop (l:List S147) (hl:l.length≤1048576) (st:Int):∀ (rest:List S147) (n:Nat) (acc:List S162),l.drop n = rest→acc.length≤n→n≤l.length→Ev (fun k => Zx.l0 k l (n:Int) st acc) (st,acc++rest.map chOf,true):=by
 intro rest
 induction rest with
 | nil =>
  intro n acc h ha hn
  have:=ZA h
  refine Ev.step (fun _ => rfl) ?_
  simp only [Zx.l0]
  exact Ev.neg (by omega) (Ev.done (by simp))
 | cons x t ih =>
  intro n acc h ha hn
  obtain ⟨h1,-,h3⟩:=Zg h
  refine Ev.step (fun _ => rfl) ?_
  simp only [Zx.l0,rdT147_drop h,Z4 (show n≤9223372036854775806 by omega)]
  exact Ev.pos (by omega) (Ev.pos (by omega) (Ev.pos (by omega) (Ev.eq (ih (n + 1) _ h3 (by simp;omega) (by omega)) (by simp [chOf]))))
theorem spec_MapBatch_ev (l:List S147) (hl:l.length≤1048576) (st:Int):Ev (fun k => Zx.f k l st) (mapBatch l st):=by
 unfold Zx.f mapBatch
 have no:∀ r:Int×List S162×Bool,r = (0,[],false)→Ev (fun k => Zx.j0 k l st true) r:=fun r hr => by
  refine Ev.step (fun _ => rfl) ?_
  simp only [Zx.j0]
  exact Ev.pos trivial (Ev.done hr.symm)
 refine Ev.bind (spec_MapOk_ev l hl) ?_
 cases mapOk l
 ·exact Ev.neg (by simp) (no _ (by simp))
 refine Ev.pos rfl (Ev.call (Z0u _ _ _) ?_)
 cases inR st 0 100000
 ·exact no _ (by simp)
 refine Ev.step (fun _ => rfl) ?_
 simp only [Zx.j0]
 exact Ev.neg (by simp) (Ev.eq (spec_MapBatch_loop l hl st l 0 [] rfl (by simp) (by omega)) (by simp))
theorem frame_le (s:ByteArray):(frame s).1.size≤1000000000:=by have:=frame_le8 s;omega
def renewList (segs:List Int) (nx ba bt:Int) (cf:List Int):List S119:=[⟨1,⟨#[109,43]⟩,⟨#[]⟩,(Z0N segs nx ba bt cf).1⟩,⟨3,⟨#[109,43]⟩,⟨#[109]⟩,⟨#[]⟩⟩]
def dropRaws (segs:List Int):List S119:=segs.map fun n => ⟨4,segT n,⟨#[]⟩,⟨#[]⟩⟩
def mergedList (s0:List Int) (a:Int) (text:ByteArray) (base term:Int) (conf:List Int):List S119:=(⟨1,segT a,⟨#[]⟩,text⟩::renewList [a] (a + 1) base term conf)++dropRaws s0
def mergedOf (rb:RBf) (rm:RMf) (d:List S122) (s0:List Int) (a:Int) (text:ByteArray) (base term:Int) (conf:List Int):Aft :=
 if (Z0N [a] (a + 1) base term conf).2 = true then afterOf rb rm d (mergedList s0 a text base term conf) else noAft
theorem mergedOf_parts {base term:Int} {conf:List Int} {a:Int} (h:(Z0N [a] (a + 1) base term conf).2 = true):0≤a∧a≤999:=by
 have hk:manOk [a] (a + 1) base term conf = true:=by
  unfold Z0N at h
  split at h
  ·assumption
  ·cases h
 obtain ⟨-,b2,-,-,-,b6,-⟩:=Z0b hk
 have:=b6 a List.mem_cons_self
 omega
theorem mergedList_small (s0:List Int) (h0:s0.length≤8) (a:Int) (text:ByteArray) (ht:text.size≤1000000000) (base term:Int) (conf:List Int):(mergedList s0 a text base term conf).length≤11∧∀ r∈mergedList s0 a text base term conf,r.f3.size≤1000000000:=by
 have hm:=manText_size (segs:=[a]) (nx:=a + 1) (ba:=base) (bt:=term) (cf:=conf)
 unfold mergedList renewList dropRaws
 refine ⟨by simp only [List.length_append,List.length_cons,List.length_nil,List.length_map];omega,fun r hr => ?_⟩
 rcases List.mem_append.1 hr with hr | hr
 ·simp only [List.mem_cons,List.not_mem_nil,or_false] at hr
  rcases hr with rfl | rfl | rfl
  ·exact ht
  ·dsimp only;omega
  ·exact Nat.zero_le _
 ·obtain ⟨n,-,rfl⟩:=List.mem_map.1 hr
  exact Nat.zero_le _
theorem spec_l10New_loop (rb:RBf) (hrb:∀ c,c.size≤9000→RB c (rb c)) (rm:RMf) (hrm:∀ s,s.size≤1000000→RM s (rm s)) (d:List S122) (hl:d.length≤1048576) (s0:List Int) (h0:s0.length≤8) (a b c:Int) (s4:List Int) (dir:List S145) (st:Int) (L:List S119) (hL:L.length≤11∧∀ r∈L,r.f3.size≤1000000000):∀ (rest:List Int) (n:Nat) (acc:List S119),s0.drop n = rest→acc.length≤n + 3→n≤s0.length→acc++dropRaws rest = L→Ev (fun k => ZQ.l0 k acc (n:Int) d s0 a b c s4 dir st) (afterOf rb rm d L):=by
 intro rest
 induction rest with
 | nil =>
  intro n acc h ha hn e
  have:=ZA h
  have e:acc = L:=by rw [←e];simp [dropRaws]
  subst e
  obtain ⟨z,hz,hz1,hz2⟩:=spec_l09After_ev rb hrb rm hrm d hl acc (by omega) hL.2
  refine Ev.step (fun _ => rfl) ?_
  simp only [ZQ.l0]
  refine Ev.neg (by omega) (Ev.bind hz (Ev.ite (fun h => Ev.done (hz2 h).symm) (fun h => Ev.done ?_)))
  unfold afterOf at hz1 ⊢
  split at hz1
  ·exact absurd hz1 h
  ·rename_i hn;rw [if_neg hn];rfl
 | cons x t ih =>
  intro n acc h ha hn e
  obtain ⟨h1,-,h3⟩:=Zg h
  refine Ev.step (fun _ => rfl) ?_
  simp only [ZQ.l0,drop_rd h,Z4 (show n≤9223372036854775806 by omega)]
  exact Ev.pos (by omega) (Ev.pos (by omega) (Ev.bind (Z15 _) (Ev.pos (by omega) (ih (n + 1) _ h3 (by simp;omega) (by omega) (by rw [←e];simp [dropRaws])))))
theorem spec_l10New_ev (rb:RBf) (hrb:∀ c,c.size≤9000→RB c (rb c)) (rm:RMf) (hrm:∀ s,s.size≤1000000→RM s (rm s)) (d:List S122) (hl:d.length≤1048576) (s0:List Int) (h0:s0.length≤8) (a b c:Int) (ha:0≤a∧a≤1000) (s4:List Int) (dir:List S145) (st:Int) (text:ByteArray) (ht:text.size≤1000000000) (base term:Int) (conf:List Int) (hc:conf.length≤1048576):Ev (fun k => ZQ.f k d s0 a b c s4 dir st text base term conf) (mergedOf rb rm d s0 a text base term conf):=by
 unfold ZQ.f mergedOf
 rw [Z9 (n:=a + 1) (by omega) (by omega)]
 have no:∀ (l:List S119) (r:Aft),r = noAft→Ev (fun k => ZQ.j0 k text (segT a) l true d s0 a b c s4 dir st) r:=fun l r hr => by
  refine Ev.step (fun _ => rfl) ?_
  simp only [ZQ.j0]
  exact Ev.pos trivial (Ev.done hr.symm)
 have hn:Ev (fun k => spec_l09NewMan.f k [a] (a + 1) base term conf) (renewList [a] (a + 1) base term conf,(Z0N [a] (a + 1) base term conf).2):=by
  unfold spec_l09NewMan.f
  exact Ev.bind (Z0E _ _ _ _ _ (by simp) (by omega)) (Ev.now _)
 refine Ev.bind (Z15 a) (Ev.call rfl (Ev.pos (by simp;omega) (Ev.bind hn (Ev.ite (fun e => ?_) (fun e => ?_)))))
 ·rw [if_pos e]
  obtain ⟨g1,g2⟩:=mergedOf_parts e
  have hz:(segT a).size≠0:=by
   have h:=segT_size (n:=a.toNat) (by omega)
   rw [show ((a.toNat:Nat):Int) = a by omega] at h
   omega
  have hne:((segT a).toList == ([]:List UInt8)) = false:=by
   rw [beq_eq_false_iff_ne]
   exact fun h => hz (toList_nil.1 h)
  dsimp only
  rw [hne]
  refine Ev.step (fun _ => rfl) ?_
  simp only [ZQ.j0]
  refine Ev.neg (by simp) (Ev.call rfl (Ev.pos (by simp [renewList]) ?_))
  exact spec_l10New_loop rb hrb rm hrm d hl s0 h0 a b c s4 dir st _ (mergedList_small s0 h0 a text ht base term conf) s0 0 _ rfl (by simp [renewList]) (by omega) rfl
 ·rw [if_neg e];exact no _ _ rfl
def mergeOf (rb:RBf) (rm:RMf) (d:List S122) (s0:List Int) (a b c:Int) (s4:List Int) (dir:List S145) (st base term:Int) (conf:List Int):Aft :=
 if openIs rb rm d s0 a b c s4 dir st = true∧base = st then mergedOf rb rm d s0 a (frame (Z7 st ((dir.map (pairAt d)).map chOf)).1).1 base term conf else noAft
theorem openIs_map {rb:RBf} (hrb:∀ c,c.size≤9000→RB c (rb c)) {rm:RMf} (hrm:∀ s,s.size≤1000000→RM s (rm s)) {d:List S122} {s0:List Int} {a b c:Int} {s4:List Int} {dir:List S145} {st:Int} (h:openIs rb rm d s0 a b c s4 dir st = true):shelfMap d dir = (dir.map (pairAt d),true)∧b≤st∧st≤100000:=by
 unfold openIs at h
 simp only [Bool.and_eq_true,decide_eq_true_iff] at h
 obtain ⟨e1,e2,e3⟩:=h
 have h1:=shelf_lies hrb hrm e1
 obtain ⟨q6,q0,q1,q2,q3,q4,q5⟩:=shelfEq_true e3
 rw [←q2,←q5,←q6] at h1
 exact h1
theorem merge_text {rb:RBf} (hrb:∀ c,c.size≤9000→RB c (rb c)) {rm:RMf} (hrm:∀ s,s.size≤1000000→RM s (rm s)) {d:List S122} {s0:List Int} {a b c:Int} {s4:List Int} {dir:List S145} {st:Int} (h:openIs rb rm d s0 a b c s4 dir st = true):shelfMap d dir = (dir.map (pairAt d),true)∧mapBatch (dir.map (pairAt d)) st = (st,(dir.map (pairAt d)).map chOf,true)∧(Z7 st ((dir.map (pairAt d)).map chOf)).2 = true∧dir.length≤60:=by
 obtain ⟨g1,g2,g3⟩:=openIs_good hrm h
 obtain ⟨m1,m2,m3⟩:=openIs_map hrb hrm h
 obtain ⟨-,-,b3,-⟩:=Z0b g2
 have hm:=mapOk_pairs (d:=d) g3
 have hr:inR st 0 100000 = true:=Zu.2 (by omega)
 refine ⟨m1,by rw [mapBatch,hm,hr];rfl,?_,dirOk_small g3⟩
 unfold Z7
 rw [if_pos (by rw [batchOk_map hm];exact hr)]
theorem spec_MergeShelf_ev (rb:RBf) (hrb:∀ c,c.size≤9000→RB c (rb c)) (rm:RMf) (hrm:∀ s,s.size≤1000000→RM s (rm s)) (d:List S122) (hl:d.length≤1048576) (s0:List Int) (a b c:Int) (s4:List Int) (dir:List S145) (st base term:Int) (conf:List Int) (hc:conf.length≤1048576) (h0:s0.length≤1048576) (h4:s4.length≤1048576) (h5:dir.length≤1048576):Ev (fun k => Zo.f k d s0 a b c s4 dir st base term conf) (mergeOf rb rm d s0 a b c s4 dir st base term conf):=by
 unfold Zo.f mergeOf
 have no:∀ r:Aft,r = noAft→Ev (fun k => Zo.j0 k base term conf true d s0 a b c s4 dir st) r:=fun r hr => by
  refine Ev.step (fun _ => rfl) ?_
  simp only [Zo.j0]
  exact Ev.pos trivial (Ev.done hr.symm)
 refine Ev.bind (spec_l09Clean_ev rb hrb rm hrm d hl s0 a b c s4 dir st h0 h4 h5) (Ev.ite (fun e1 => ?_) (fun e1 => no _ ?_))
 ·by_cases e2:base = st
  ·rw [if_pos ⟨e1,e2⟩,show (base != st) = false by simpa using e2]
   obtain ⟨g1,g2,g3⟩:=openIs_good hrm e1
   obtain ⟨b1,b2,-,-,b5,-,-⟩:=Z0b g2
   obtain ⟨t1,t2,t3,t4⟩:=merge_text hrb hrm e1
   obtain ⟨ch,hch⟩:∃ ch,ch = (dir.map (pairAt d)).map chOf:=⟨_,rfl⟩
   rw [←hch] at t2 t3 ⊢
   have hcl:ch.length≤60:=by rw [hch];simpa using t4
   have hts:=batchText_size st ch
   refine Ev.step (fun _ => rfl) ?_
   simp only [Zo.j0]
   exact Ev.neg (by simp) (Ev.bind (Ev.eq (spec_ShelfMap_ev d hl s0 a b c s4 dir st (by omega)) t1) (Ev.bind (Ev.eq (spec_MapBatch_ev (dir.map (pairAt d)) (by rw [List.length_map];omega) st) t2) (Ev.bind (spec_BatchText_ev st ch (by omega)) (Ev.bind (spec_Frame_ev _ (by omega)) (Ev.bind (spec_l10New_ev rb hrb rm hrm d hl s0 (by omega) a b c (by omega) s4 dir st _ (frame_le _) base term conf hc) (Ev.now _))))))
  ·rw [if_neg (fun h => e2 h.2),show (base != st) = true by simpa using e2]
   exact no _ rfl
 ·rw [if_neg (fun h => e1 h.1)]
theorem stands_mem {d:List S122} (h:namesUp d) {x:S122} (hx:x∈d):stands (Ze x.f0) d = true∧ZD x.f0 d = x.f1:=by
 obtain ⟨i,hi,e⟩:=List.getElem_of_mem hx
 have he:d[i]? = some x:=by rw [List.getElem?_eq_getElem hi,e]
 obtain ⟨e1,e2⟩:=ahead_at h he rfl
 refine ⟨e2,?_⟩
 unfold ZD
 rw [if_pos e2,e1]
 unfold Z0e
 rw [Int.toNat_natCast,List.getD_eq_getElem?_getD,he]
 rfl
theorem stands_ex {d:List S122} {key:ByteArray} (h:stands (Ze key) d = true):∃ x∈d,x.f0 = key:=by
 obtain ⟨x,hx,he⟩:=stands_at h
 exact ⟨x,List.mem_of_getElem? hx,toList_inj.1 he⟩
theorem stands_iff {d:List S122} (h:namesUp d) (key:ByteArray):stands (Ze key) d = true↔∃ x∈d,x.f0 = key :=
 ⟨stands_ex,fun ⟨x,hx,e⟩ => by rw [←e];exact (stands_mem h hx).1⟩
theorem textAt_none {d:List S122} {key:ByteArray} (h:¬ stands (Ze key) d = true):ZD key d = ⟨#[]⟩:=by unfold ZD;rw [if_neg h]
theorem putF_mem {name text:ByteArray} {d:List S122} {x:S122}:x∈putF name text d↔(x∈d∧x.f0≠name)∨x = ⟨name,text⟩:=by
 unfold putF
 simp only [List.mem_append,List.mem_filter,List.mem_singleton]
 constructor
 ·rintro ((⟨h,k⟩ | rfl) | ⟨h,k⟩)
  ·exact .inl ⟨h,lt_ne k⟩
  ·exact .inr rfl
  ·exact .inl ⟨h,(lt_ne k).symm⟩
 ·rintro (⟨h,k⟩ | rfl)
  ·rcases lt_tri x.f0 name with e | e | e
   ·exact .inl (.inl ⟨h,e⟩)
   ·exact absurd e k
   ·exact .inr ⟨h,e⟩
  ·exact .inl (.inr rfl)
theorem putF_up {name text:ByteArray} {d:List S122} (h:namesUp d):namesUp (putF name text d):=by
 unfold putF namesUp
 rw [List.pairwise_append,List.pairwise_append]
 refine ⟨⟨List.Pairwise.filter _ h,List.pairwise_singleton _ _,fun x hx y hy => ?_⟩,List.Pairwise.filter _ h,fun x hx y hy => ?_⟩
 ·obtain rfl:=List.mem_singleton.1 hy
  exact (List.mem_filter.1 hx).2
 ·have hy:=(List.mem_filter.1 hy).2
  rcases List.mem_append.1 hx with hx | hx
  ·exact lessK_trans (List.mem_filter.1 hx).2 hy
  ·obtain rfl:=List.mem_singleton.1 hx
   exact hy
theorem putF_text {name text:ByteArray} {d:List S122} (h:namesUp d) (key:ByteArray):ZD key (putF name text d) = if key = name then text else ZD key d:=by
 have hu:=putF_up (name:=name) (text:=text) h
 by_cases e:key = name
 ·subst e
  rw [if_pos rfl]
  exact (stands_mem hu (x:=⟨key,text⟩) (putF_mem.2 (.inr rfl))).2
 ·rw [if_neg e]
  by_cases hs:stands (Ze key) d = true
  ·obtain ⟨x,hx,rfl⟩:=stands_ex hs
   rw [(stands_mem h hx).2,(stands_mem hu (putF_mem.2 (.inl ⟨hx,e⟩))).2]
  ·rw [textAt_none hs,textAt_none]
   intro hn
   obtain ⟨x,hx,rfl⟩:=stands_ex hn
   rcases putF_mem.1 hx with ⟨hx,-⟩ | rfl
   ·exact hs (stands_mem h hx).1
   ·exact e rfl
theorem dropF_mem {name:ByteArray} {d:List S122} {x:S122}:x∈dropF name d↔x∈d∧x.f0≠name:=by
 unfold dropF
 rw [List.mem_filter]
 simp
theorem dropF_stands {name:ByteArray} {d:List S122} (h:namesUp d) (key:ByteArray):stands (Ze key) (dropF name d) = true↔key≠name∧stands (Ze key) d = true:=by
 rw [stands_iff (dropF_up name h),stands_iff h]
 constructor
 ·rintro ⟨x,hx,rfl⟩
  have:=dropF_mem.1 hx
  exact ⟨this.2,x,this.1,rfl⟩
 ·rintro ⟨e,x,hx,rfl⟩
  exact ⟨x,dropF_mem.2 ⟨hx,e⟩,rfl⟩
theorem dropF_text {name:ByteArray} {d:List S122} (h:namesUp d) {key:ByteArray} (e:key≠name):ZD key (dropF name d) = ZD key d:=by
 by_cases hs:stands (Ze key) d = true
 ·obtain ⟨x,hx,rfl⟩:=stands_ex hs
  rw [(stands_mem h hx).2,(stands_mem (dropF_up name h) (dropF_mem.2 ⟨hx,e⟩)).2]
 ·rw [textAt_none hs,textAt_none (fun hn => hs ((dropF_stands h key).1 hn).2)]
def frs (l:List ByteArray):List Int:=l.flatMap fun c => bytesOf (frame c).1
def okRec (c:ByteArray):Prop:=1≤c.size∧c.size≤9000
theorem frame_by {c:ByteArray} (h:okRec c):bytesOf (frame c).1 = varL c.size++(bytesOf (four (sumOf c))++bytesOf c)∧(frame c).2 = true:=by
 rw [frame,if_pos (Zu.2 (by unfold okRec at h;omega))]
 simp only [Z0z,bytesOf_varText,List.append_assoc,and_self]
theorem unf_fwd {s:ByteArray} {c:ByteArray} (hc:okRec c) {a b:Int} (h:At s a (bytesOf (frame c).1) b):Z0F s a = some (c,b):=by
 obtain ⟨hz1,hz2⟩:=hc
 have hf:=frame_by ⟨hz1,hz2⟩
 have hw:=h
 rw [hf.1] at h
 obtain ⟨p1,h⟩:=h.split
 obtain ⟨p2,p3⟩:=h.split
 have l2:(bytesOf (four (sumOf c))).length = 4:=by rw [Zk,four_size]
 rw [l2] at p3 p2
 have hv:=readVar_fwd p1 (by omega)
 generalize a + ((varL c.size).length:Int) = e at *
 have hb:=p3.2.1
 rw [Zk] at hb
 have i1:=p1.le;have i2:=p2.le;have i3:=p3.le
 have x1:s.extract (e + 4).toNat b.toNat = c:=bytesOf_inj (extract_at p3)
 have x2:s.extract a.toNat b.toNat = (frame c).1:=bytesOf_inj (extract_at hw)
 have hb':e + 4 + (c.size:Int) = b:=by omega
 unfold Z0F
 rw [hv,if_neg (by simp)]
 dsimp only
 rw [if_neg (by omega),hb',x1,x2,if_pos ⟨hf.2,rfl⟩]
theorem unf_at {s:ByteArray} {a b:Int} {c:ByteArray} (h:Z0F s a = some (c,b)):okRec c∧At s a (bytesOf (frame c).1) b:=by
 obtain ⟨h0,h1,h2,h3⟩:=unfStep_some h
 obtain ⟨k1,k2,k3⟩:=unfStep_fr h
 have hok:okRec c:=by
  unfold frame at k1
  split at k1
  ·rename_i hi;have:=Zu.1 hi;exact ⟨by omega,by omega⟩
  ·cases k1
 refine ⟨hok,?_⟩
 have hlen:(bytesOf (frame c).1).length = (frame c).1.size:=Zk _
 have he:(bytesOf s).drop a.toNat = bytesOf (frame c).1++(bytesOf s).drop b.toNat:=by
  rw [←k3,bytesOf_extract,List.drop_take,show (bytesOf s).drop b.toNat = ((bytesOf s).drop a.toNat).drop (b.toNat - a.toNat) by rw [List.drop_drop];congr 1;omega,List.take_append_drop]
 have:=At.mk' h0 (by omega) he
 rw [hlen,k2] at this
 exact this
theorem unf_end {s:ByteArray}:Z0F s (s.size:Int) = none:=by
 cases h:Z0F s (s.size:Int) with
 | none => rfl
 | some x => obtain ⟨c,b⟩:=x;have:=unfStep_some h;omega
theorem frs_len_ge (l:List ByteArray) (h:∀ c∈l,okRec c):l.length≤(frs l).length:=by
 induction l with
 | nil => simp [frs]
 | cons c t ih =>
  have:=ih (fun y hy => h y (List.mem_cons_of_mem _ hy))
  have hf:=(frame_by (h c List.mem_cons_self)).1
  have hc:=h c List.mem_cons_self
  unfold frs at this ⊢
  rw [List.flatMap_cons,List.length_append,hf]
  simp only [List.length_append,List.length_cons,Zk]
  unfold okRec at hc
  omega
theorem unfr_fwd {s:ByteArray}:∀ (l:List ByteArray) (m:Nat) (acc:List ByteArray) (a b:Int),(∀ c∈l,okRec c)→At s a (frs l) b→Z0F s b = none→l.length < m→unfr s m acc a = (acc++l,b)
 | [],m,acc,a,b,_,h,hb,hm => by
  have e:b = a:=by have:=h.2.1;simp [frs] at this;exact this
  subst e
  cases m with
  | zero => omega
  | succ m => rw [unfr,hb];simp
 | c::t,m,acc,a,b,hc,h,hb,hm => by
  unfold frs at h
  rw [List.flatMap_cons] at h
  obtain ⟨h1,h2⟩:=h.split
  cases m with
  | zero => simp at hm
  | succ m =>
   rw [unfr,unf_fwd (hc c List.mem_cons_self) h1]
   dsimp only
   rw [unfr_fwd t m (acc++[c]) _ b (fun y hy => hc y (List.mem_cons_of_mem _ hy)) h2 hb (by simp at hm;omega),List.append_assoc]
   rfl
theorem unframe_fwd {s:ByteArray} (hs:s.size≤20000) {l:List ByteArray} (hc:∀ c∈l,okRec c) {b:Int} (h:At s 0 (frs l) b) (hb:Z0F s b = none):ZY s = (l,b):=by
 unfold ZY
 rw [if_neg (by omega)]
 have:=frs_len_ge l hc
 have:=h.le
 rw [unfr_fwd l _ [] 0 b hc h hb (by omega)];rfl
theorem unfr_back (s:ByteArray):∀ (m:Nat) (acc:List ByteArray) (a:Int) (l:List ByteArray),(unfr s m acc a).1 = acc++l→0≤a→a≤s.size→(∀ c∈l,okRec c)∧At s a (frs l) (unfr s m acc a).2
 | 0,acc,a,l,h,h0,h1 => by
  rw [unfr] at h ⊢
  obtain rfl:l = []:=by simpa using h
  exact ⟨(fun c hc => by cases hc),At.nil h0 h1⟩
 | m + 1,acc,a,l,h,h0,h1 => by
  rw [unfr] at h ⊢
  cases hs:Z0F s a with
  | none =>
   rw [hs] at h
   obtain rfl:l = []:=by simpa using h
   exact ⟨(fun c hc => by cases hc),At.nil h0 h1⟩
  | some x =>
   obtain ⟨c,b⟩:=x
   rw [hs] at h
   dsimp only at h ⊢
   obtain ⟨r,hr⟩:=unfr_acc s m (acc++[c]) b
   have hl:l = c::r:=by
    rw [hr,List.append_assoc] at h
    exact (List.append_cancel_left h).symm
   subst hl
   obtain ⟨k1,k2⟩:=unf_at hs
   obtain ⟨j0,j1,j2,-⟩:=unfStep_some hs
   obtain ⟨i1,i2⟩:=unfr_back s m (acc++[c]) b r hr (by omega) j2
   refine ⟨fun y hy => ?_,?_⟩
   ·rcases List.mem_cons.1 hy with rfl | hy
    ·exact k1
    ·exact i1 y hy
   ·unfold frs
    rw [List.flatMap_cons]
    exact k2.trans i2
theorem unframe_back (s:ByteArray):(∀ c∈(ZY s).1,okRec c)∧At s 0 (frs (ZY s).1) (ZY s).2:=by
 unfold ZY
 split
 ·exact ⟨(fun c hc => by cases hc),At.nil (by omega) (by omega)⟩
 ·exact unfr_back s _ [] 0 _ (by simp) (by omega) (by omega)
theorem rm_man {rm:RMf} (hrm:∀ s,s.size≤1000000→RM s (rm s)) {segs:List Int} {nx ba bt:Int} {cf:List Int} (h:(Z0N segs nx ba bt cf).2 = true):rm (Z0N segs nx ba bt cf).1 = (segs,nx,ba,bt,cf,true):=by
 have hs:=manText_size (segs:=segs) (nx:=nx) (ba:=ba) (bt:=bt) (cf:=cf)
 exact Ev.uniq (hrm _ (by omega)).1 (spec_ReadManifest_good _ (by omega) segs nx ba bt cf (Prod.ext rfl h))
theorem openIs_of {rb:RBf} {rm:RMf} {d:List S122} {s0:List Int} {a b c:Int} {s4:List Int} {dir:List S145} {st:Int} (h:ZU rb rm d = (s0,a,b,c,s4,dir,st,[],0)):openIs rb rm d s0 a b c s4 dir st = true:=by
 unfold openIs shelfEq
 rw [h]
 simp
theorem after_eq {rb:RBf} {rm:RMf} {d:List S122} {l:List S119} {r:Aft} (h:afterOf rb rm d l = r) (hk:r.2.2.2.2.2.2.2.2 = true):(Z0m d l).2 = (l.length:Int)∧r.2.2.2.2.2.2.2.1 = l∧ZU rb rm (Z0m d l).1 = (r.1,r.2.1,r.2.2.1,r.2.2.2.1,r.2.2.2.2.1,r.2.2.2.2.2.1,r.2.2.2.2.2.2.1,[],0):=by
 unfold afterOf at h
 split at h
 ·rename_i hc
  subst h
  obtain ⟨h1,h2,h3⟩:=hc
  exact ⟨h1,rfl,Prod.ext rfl (Prod.ext rfl (Prod.ext rfl (Prod.ext rfl (Prod.ext rfl (Prod.ext rfl (Prod.ext rfl (Prod.ext h3 h2)))))))⟩
 ·subst h;cases hk
theorem putRawsOf_done:∀ (l:List S119) (d:List S122) (n:Nat),(putRawsOf l d n).2 = n + l.length→(putRawsOf l d n).1 = l.foldl putRawOf d∧∀ p r q,l = p++r::q→(putRaw1 (p.foldl putRawOf d) r).2 = true
 | [],d,n,_ => ⟨rfl,fun p r q h => by simp at h⟩
 | x::t,d,n,h => by
  rw [putRawsOf] at h ⊢
  by_cases hx:(putRaw1 d x).2 = true
  ·rw [if_pos hx] at h ⊢
   have e:(putRaw1 d x).1 = putRawOf d x:=by
    unfold putRaw1 at hx ⊢
    split at hx
    ·rename_i h1
     rw [if_pos h1]
     split at hx
     ·rename_i h2;rw [if_pos h2]
     ·cases hx
    ·cases hx
   rw [e] at h ⊢
   obtain ⟨i1,i2⟩:=putRawsOf_done t (putRawOf d x) (n + 1) (by rw [h,List.length_cons];omega)
   refine ⟨i1,fun p r q hp => ?_⟩
   cases p with
   | nil =>
    rw [List.nil_append] at hp
    injection hp with h1 h2
    rw [←h1];exact hx
   | cons y p =>
    rw [List.cons_append] at hp
    injection hp with h1 h2
    rw [List.foldl_cons,←h1]
    exact i2 p r q h2
  ·rw [if_neg hx] at h
   simp at h
theorem putRaws_done {d:List S122} (hd:Z0B d = true) {l:List S119} (hl:l.length≤60) (h:(Z0m d l).2 = (l.length:Int)):(Z0m d l).1 = l.foldl putRawOf d∧∀ p r q,l = p++r::q→(putRaw1 (p.foldl putRawOf d) r).2 = true:=by
 unfold Z0m at h ⊢
 rw [if_pos (by rw [hd,decide_eq_true hl];rfl)] at h ⊢
 exact putRawsOf_done l d 0 (by dsimp only at h;omega)
def fullT (rb:RBf) (t:ByteArray):Prop:=endOn rb 0 (ZY t).1 = (t.size:Int)
theorem endOn_le (rb:RBf):∀ (l:List ByteArray) (a:Int),endOn rb a l≤frSum a l
 | [],_ => Int.le_refl _
 | c::t,a => by
  rw [endOn,frSum]
  split
  ·exact endOn_le rb t _
  ·have:=(frSum_ge t (a + ((frame c).1.size:Int))).1;omega
theorem endOn_all (rb:RBf):∀ (l:List ByteArray) (a:Int),(∀ c∈l,okRec c)→endOn rb a l = frSum a l→∀ c∈l,(rb c).2.2 = true
 | [],_,_,_,c,hc => by cases hc
 | x::t,a,h,e,c,hc => by
  rw [endOn,frSum] at e
  have hx:=h x List.mem_cons_self
  have hz:=frame_sz (c:=x) hx
  have hg:=(frSum_ge t (a + ((frame x).1.size:Int))).1
  unfold okRec at hx
  by_cases hk:(rb x).2.2 = true
  ·rw [if_pos hk] at e
   rcases List.mem_cons.1 hc with rfl | hc
   ·exact hk
   ·exact endOn_all rb t _ (fun y hy => h y (List.mem_cons_of_mem _ hy)) e c hc
  ·rw [if_neg hk] at e;omega
theorem endOn_good_all (rb:RBf):∀ (l:List ByteArray) (a:Int),(∀ c∈l,(rb c).2.2 = true)→endOn rb a l = frSum a l
 | [],_,_ => rfl
 | x::t,a,h => by rw [endOn,frSum,if_pos (h x List.mem_cons_self),endOn_good_all rb t _ (fun y hy => h y (List.mem_cons_of_mem _ hy))]
theorem segEnd_le (rb:RBf) (d:List S122) (n:Int):segEnd rb d n≤((ZD (segT n) d).size:Int):=by
 obtain ⟨h1,h2⟩:=unframe_sum (ZD (segT n) d)
 have:=endOn_le rb (ZY (ZD (segT n) d)).1 0
 unfold segEnd;omega
theorem full_parts {rb:RBf} {t:ByteArray} (h:fullT rb t):(∀ c∈(ZY t).1,(rb c).2.2 = true∧okRec c)∧(ZY t).2 = (t.size:Int)∧At t 0 (frs (ZY t).1) t.size:=by
 unfold fullT at h
 obtain ⟨h1,h2⟩:=unframe_sum t
 obtain ⟨b1,b2⟩:=unframe_back t
 have h3:=endOn_le rb (ZY t).1 0
 have e:(ZY t).2 = (t.size:Int):=by omega
 rw [e] at b2
 exact ⟨fun c hc => ⟨endOn_all rb _ 0 b1 (by omega) c hc,b1 c hc⟩,e,b2⟩
theorem scanOn_snoc (rb:RBf) (seg:Int) (c:ByteArray) (hc:(rb c).2.2 = true):∀ (l:List ByteArray) (a:Int) (r:List S145×List ByteArray×Int),(∀ x∈l,(rb x).2.2 = true)→scanOn rb seg a (l++[c]) r = ((scanOn rb seg a l r).1++spotsAt seg (frSum a l + ((frame c).1.size:Int) - (c.size:Int) + ((Zv (rb c).1.toNat).size:Int) + ((Zv (rb c).2.1.length).size:Int)) (rb c).2.1,(scanOn rb seg a l r).2.1++[c],mx (scanOn rb seg a l r).2.2 (rb c).1)
 | [],a,r,_ => by simp only [List.nil_append,scanOn,frSum];rw [if_pos hc]
 | x::t,a,r,h => by
  rw [List.cons_append,scanOn,scanOn,frSum,if_pos (h x List.mem_cons_self),if_pos (h x List.mem_cons_self)]
  exact scanOn_snoc rb seg c hc t _ _ (fun y hy => h y (List.mem_cons_of_mem _ hy))
theorem unframe_snoc {rb:RBf} {t:ByteArray} (h:fullT rb t) {c:ByteArray} (hc:okRec c) (hs:t.size + (frame c).1.size≤20000):ZY (t++(frame c).1) = ((ZY t).1++[c],((t.size + (frame c).1.size:Nat):Int)):=by
 obtain ⟨h1,h2,h3⟩:=full_parts h
 have hz:(t++(frame c).1).size = t.size + (frame c).1.size:=size_append ..
 have hall:At (t++(frame c).1) 0 (frs ((ZY t).1++[c])) ((t.size + (frame c).1.size:Nat):Int):=by
  have hw:=At.whole (t++(frame c).1)
  rw [hz,Z0z,h3.all] at hw
  unfold frs at hw ⊢
  rw [List.flatMap_append]
  simpa using hw
 refine unframe_fwd (by omega) (fun x hx => ?_) hall (by rw [←hz];exact unf_end)
 rcases List.mem_append.1 hx with hx | hx
 ·exact (h1 x hx).2
 ·obtain rfl:=List.mem_singleton.1 hx;exact hc
def spotsOn (rb:RBf) (d:List S122) (segs:List Int):List S145:=segs.flatMap fun n => (Z1a rb d n).1
def stampOn (rb:RBf) (d:List S122) (st:Int) (segs:List Int):Int:=segs.foldl (fun s n => mx s (Z1a rb d n).2.2) st
theorem openOn_snoc {rb:RBf} {d:List S122} (z:Int):∀ (init:List Int) (sp:List S145) (st:Int) (r:List S145×Int),openOn rb d (init++[z]) sp st = some r→(∀ n∈init,segEnd rb d n = ((ZD (segT n) d).size:Int))∧r = (sp++spotsOn rb d (init++[z]),stampOn rb d st (init++[z]))
 | [],sp,st,r,h => by
  simp only [List.nil_append,openOn] at h
  rw [if_neg (by simp)] at h
  obtain rfl:=Option.some.inj h
  exact ⟨(fun n hn => by cases hn),by simp [spotsOn,stampOn]⟩
 | n::t,sp,st,r,h => by
  rw [List.cons_append,openOn] at h
  split at h
  ·cases h
  ·rename_i hn
   have hn':¬ segEnd rb d n < ((ZD (segT n) d).size:Int):=fun e => hn ⟨e,by simp⟩
   have hle:=segEnd_le rb d n
   obtain ⟨i1,i2⟩:=openOn_snoc z t _ _ r h
   refine ⟨fun m hm => ?_,?_⟩
   ·rcases List.mem_cons.1 hm with rfl | hm
    ·omega
    ·exact i1 m hm
   ·rw [i2]
    simp [spotsOn,stampOn]
theorem openOn_make {rb:RBf} {d:List S122}:∀ (segs:List Int) (sp:List S145) (st:Int),(∀ n∈segs,segEnd rb d n = ((ZD (segT n) d).size:Int))→openOn rb d segs sp st = some (sp++spotsOn rb d segs,stampOn rb d st segs)
 | [],sp,st,_ => by simp [openOn,spotsOn,stampOn]
 | n::t,sp,st,h => by
  have hn:=h n List.mem_cons_self
  rw [openOn,if_neg (fun e => by omega),openOn_make t _ _ (fun y hy => h y (List.mem_cons_of_mem _ hy))]
  simp [spotsOn,stampOn]
theorem endOf_snoc (rb:RBf) (d:List S122) (z:Int):∀ (init:List Int) (e:Int),endOf rb d (init++[z]) e = segEnd rb d z
 | [],e => rfl
 | n::t,e => by rw [List.cons_append,endOf,endOf_snoc rb d z t]
theorem lastOf_snoc (init:List Int) (z:Int):lastOf (init++[z]) = z:=by
 unfold lastOf
 rw [List.length_append,List.length_singleton,show ((init.length + 1:Nat):Int) - 1 = ((init.length:Nat):Int) by omega,rd_nat,List.getD_eq_getElem?_getD,List.getElem?_append_right (Nat.le_refl _)]
 simp
theorem clean_parts {rb:RBf} {rm:RMf} (hrm:∀ s,s.size≤1000000→RM s (rm s)) {d:List S122} {s0:List Int} {a b c:Int} {s4:List Int} {dir:List S145} {st:Int} (h:ZU rb rm d = (s0,a,b,c,s4,dir,st,[],0)) :
  Z0B d = true∧manOk s0 a b c s4 = true∧stands (Ze ⟨#[109]⟩) d = true∧manAt rm d = (s0,a,b,c,s4,true)∧(∀ n∈s0,stands (Ze (segT n)) d = true)∧newDrop d = []∧dropsOf s0 d = []∧(∀ n∈s0,fullT rb (ZD (segT n) d))∧dirOk dir = true∧dir = (spotsOn rb d s0).foldl layS []∧st = stampOn rb d b s0:=by
 have h0:(ZU rb rm d).2.2.2.2.2.2.2.2 = 0:=by rw [h]
 have hc:=shelf_load h0
 obtain ⟨g1,g2,g3⟩:=shelf_good hrm h0
 rw [h] at g2 g3
 obtain ⟨p1,p2,p3,sp,st',p4,p5,p6⟩:=load_parts hc
 unfold ZU at h
 rw [if_pos hc,p6] at h
 simp only [Prod.mk.injEq] at h
 obtain ⟨e0,e1,e2,e3,e4,e5,e6,e7,-⟩:=h
 simp only [Bool.and_eq_true] at p2
 have hm:manAt rm d = (s0,a,b,c,s4,true):=Prod.ext e0 (Prod.ext e1 (Prod.ext e2 (Prod.ext e3 (Prod.ext e4 p2.2))))
 rw [hm] at p3 p4 e7
 dsimp only at p3 p4 e7 g2 g3
 have hb:=(Z0b g2).1
 obtain ⟨init,z,rfl⟩:∃ init z,s0 = init++[z]:=by
  rcases List.eq_nil_or_concat s0 with rfl | ⟨i,z,e⟩
  ·simp at hb
  ·exact ⟨i,z,by rw [e];simp⟩
 rw [List.append_eq_nil_iff,List.append_eq_nil_iff] at e7
 obtain ⟨⟨e8,e9⟩,e10⟩:=e7
 rw [lastOf_snoc,endOf_snoc] at e10
 obtain ⟨f1,f2⟩:=openOn_snoc z init [] b _ p4
 rw [List.nil_append] at f2
 have hz:segEnd rb d z = ((ZD (segT z) d).size:Int):=by
  have:=segEnd_le rb d z
  unfold putRaw at e10
  by_cases hlt:segEnd rb d z < ((ZD (segT z) d).size:Int)
  ·rw [if_pos hlt] at e10;cases e10
  ·omega
 refine ⟨g1,g2,p2.1,hm,fun n hn => List.all_eq_true.1 p3 n hn,e8,e9,fun n hn => ?_,g3,?_,?_⟩
 ·rcases List.mem_append.1 hn with hn | hn
  ·exact f1 n hn
  ·obtain rfl:=List.mem_singleton.1 hn;exact hz
 ·rw [←e5];exact congrArg (fun x => List.foldl layS [] x.1) f2
 ·rw [←e6];exact congrArg Prod.snd f2
theorem clean_make {rb:RBf} {rm:RMf} {d:List S122} {s0:List Int} {a b c:Int} {s4:List Int} (hd:Z0B d = true) (hs:stands (Ze ⟨#[109]⟩) d = true) (hm:manAt rm d = (s0,a,b,c,s4,true)) (hn:s0≠[]) (hall:∀ n∈s0,stands (Ze (segT n)) d = true) (h1:newDrop d = []) (h2:dropsOf s0 d = []) (h3:∀ n∈s0,fullT rb (ZD (segT n) d)) (hk:dirOk ((spotsOn rb d s0).foldl layS []) = true) :
  ZU rb rm d = (s0,a,b,c,s4,(spotsOn rb d s0).foldl layS [],stampOn rb d b s0,[],0):=by
 have hl:Z0H rb rm d = (s0,a,b,c,s4,(spotsOn rb d s0).foldl layS [],stampOn rb d b s0,endOf rb d s0 0,0):=by
  unfold Z0H
  rw [if_pos hd,hs,hm]
  dsimp only
  rw [if_pos (show (true && true) = true from rfl),if_pos (List.all_eq_true.2 hall),openOn_make s0 [] b h3,List.nil_append]
  dsimp only
  rw [if_pos hk]
 obtain ⟨init,z,rfl⟩:∃ init z,s0 = init++[z]:=by
  rcases List.eq_nil_or_concat s0 with rfl | ⟨i,z,e⟩
  ·exact absurd rfl hn
  ·exact ⟨i,z,by rw [e];simp⟩
 have hz:=h3 z (by simp)
 unfold ZU
 rw [hl,if_pos rfl]
 dsimp only
 rw [h1,h2,lastOf_snoc,endOf_snoc]
 unfold putRaw
 rw [if_neg (by unfold fullT at hz;unfold segEnd;omega)]
 rfl
def putP (name text:ByteArray) (d:List S147):List S147:=d.filter (fun x => lessK x.f0 name)++[(⟨name,text⟩:S147)]++d.filter (fun x => lessK name x.f0)
theorem spec_l06Put_l1 (d:List S147) (hd:d.length≤1048576) (name text:ByteArray):∀ (rest:List S147) (n:Nat) (acc:List S147),d.drop n = rest→acc.length + rest.length≤4000000 →
  Ev (fun k => Z0h.l1 k d name acc (n:Int)) (acc++rest.filter fun x => lessK name x.f0):=by
 intro rest
 induction rest with
 | nil =>
  intro n acc h _
  have:=ZA h
  refine Ev.step (fun _ => rfl) ?_
  simp only [Z0h.l1]
  exact Ev.neg (by omega) (Ev.done (by simp))
 | cons x t ih =>
  intro n acc h h1
  obtain ⟨k1,-,k3⟩:=Zg h
  rw [List.length_cons] at h1
  refine Ev.step (fun _ => rfl) ?_
  simp only [Z0h.l1,rdT147_drop h,Z4 (show n≤9223372036854775806 by omega)]
  refine Ev.pos (by omega) (Ev.pos (by omega) (Ev.ite (fun hc => Ev.pos (by omega) (Ev.eq (ih (n + 1) _ k3 (by simp;omega)) ?_)) (fun hc => Ev.eq (ih (n + 1) acc k3 (by omega)) ?_)))
  ·rw [List.filter_cons_of_pos (by exact hc)];simp
  ·rw [List.filter_cons_of_neg (by exact hc)]
theorem spec_l06Put_l0 (d:List S147) (hd:d.length≤1048576) (name text:ByteArray):∀ (rest:List S147) (n:Nat) (acc:List S147),d.drop n = rest→acc.length + rest.length≤1048576→acc++rest.filter (fun x => lessK x.f0 name) = d.filter (fun x => lessK x.f0 name) →
  Ev (fun k => Z0h.l0 k d name text acc (n:Int)) (putP name text d):=by
 intro rest
 induction rest with
 | nil =>
  intro n acc h h1 he
  have:=ZA h
  rw [List.filter_nil,List.append_nil] at he
  rw [List.length_nil] at h1
  refine Ev.step (fun _ => rfl) ?_
  simp only [Z0h.l0]
  refine Ev.neg (by omega) (Ev.pos (by omega) (Ev.eq (spec_l06Put_l1 d hd name text d 0 _ rfl (by simp;omega)) ?_))
  rw [he];rfl
 | cons x t ih =>
  intro n acc h h1 he
  obtain ⟨k1,-,k3⟩:=Zg h
  rw [List.length_cons] at h1
  refine Ev.step (fun _ => rfl) ?_
  simp only [Z0h.l0,rdT147_drop h,Z4 (show n≤9223372036854775806 by omega)]
  refine Ev.pos (by omega) (Ev.pos (by omega) (Ev.ite (fun hc => Ev.pos (by omega) (ih (n + 1) _ k3 (by simp;omega) ?_)) (fun hc => ih (n + 1) acc k3 (by omega) ?_)))
  ·rw [List.filter_cons_of_pos (by exact hc)] at he;rw [←he];simp
  ·rw [List.filter_cons_of_neg (by exact hc)] at he;exact he
theorem spec_l06Put_ev (d:List S147) (hd:d.length≤1048576) (name text:ByteArray):Ev (fun k => Z0h.f k d name text) (putP name text d) :=
 spec_l06Put_l0 d hd name text d 0 [] rfl (by simp;omega) (by simp)
def cutP (name:ByteArray) (d:List S147):List S147:=d.filter fun x => !decide (x.f0 = name)
def pairsUp (l:List S147):Prop:=l.Pairwise fun x y => lessK x.f0 y.f0 = true
theorem spec_l06Cut_l0 (name:ByteArray) (d:List S147) (hd:d.length≤1048576):∀ (rest:List S147) (n:Nat) (acc:List S147),d.drop n = rest→acc.length + rest.length≤1048576 →
  Ev (fun k => spec_l06Cut.l0 k d name acc (n:Int)) (acc++cutP name rest):=by
 intro rest
 induction rest with
 | nil =>
  intro n acc h _
  have:=ZA h
  refine Ev.step (fun _ => rfl) ?_
  simp only [spec_l06Cut.l0]
  exact Ev.neg (by omega) (Ev.done (by simp [cutP]))
 | cons x t ih =>
  intro n acc h h1
  obtain ⟨k1,-,k3⟩:=Zg h
  rw [List.length_cons] at h1
  refine Ev.step (fun _ => rfl) ?_
  simp only [spec_l06Cut.l0,rdT147_drop h,Z4 (show n≤9223372036854775806 by omega)]
  refine Ev.pos (by omega) (Ev.pos (by omega) (Ev.ite (fun hc => Ev.eq (ih (n + 1) acc k3 (by omega)) ?_) (fun hc => Ev.pos (by omega) (Ev.eq (ih (n + 1) _ k3 (by simp;omega)) ?_))))
  ·unfold cutP;rw [List.filter_cons_of_neg (by simp [toList_inj.1 hc])]
  ·unfold cutP;rw [List.filter_cons_of_pos (by simp;exact fun e => hc (by rw [e]))];simp
theorem spec_l06Cut_ev (d:List S147) (hd:d.length≤1048576) (name:ByteArray):Ev (fun k => spec_l06Cut.f k d name) (cutP name d) :=
 Ev.eq (spec_l06Cut_l0 name d hd d 0 [] rfl (by simp;omega)) (by simp)
theorem cutP_parts (name:ByteArray) {d:List S147} (hu:pairsUp d):d.filter (fun x => lessK x.f0 name)++d.filter (fun x => lessK name x.f0) = cutP name d:=by
 induction d with
 | nil => rfl
 | cons x t ih =>
  have ht:=(List.pairwise_cons.mp hu).2
  have ih:=ih ht
  unfold cutP at ih ⊢
  rcases lt_tri x.f0 name with h | h | h
  ·have h':¬ lessK name x.f0 = true:=fun e => by have:=lessK_trans h e;rw [lessK_irr] at this;cases this
   rw [List.filter_cons_of_pos (by exact h),List.filter_cons_of_neg (by exact h'),List.filter_cons_of_pos (by simpa using lt_ne h),List.cons_append,ih]
  ·have h1:¬ lessK x.f0 name = true:=by rw [h,lessK_irr];simp
   have h2:¬ lessK name x.f0 = true:=by rw [h,lessK_irr];simp
   rw [List.filter_cons_of_neg (by exact h1),List.filter_cons_of_neg (by exact h2),List.filter_cons_of_neg (by simp [h]),ih]
  ·have hn:∀ y∈t,¬ lessK y.f0 name = true:=fun y hy e => by
    have:=lessK_trans (lessK_trans h ((List.pairwise_cons.mp hu).1 y hy)) e
    rw [lessK_irr] at this;cases this
   have h':¬ lessK x.f0 name = true:=fun e => by have:=lessK_trans h e;rw [lessK_irr] at this;cases this
   have e0:t.filter (fun x => lessK x.f0 name) = []:=List.filter_eq_nil_iff.mpr hn
   rw [e0,List.nil_append] at ih
   rw [List.filter_cons_of_neg (by exact h'),List.filter_cons_of_pos (by exact h),List.filter_cons_of_pos (by simpa using (lt_ne h).symm),e0,List.nil_append,ih]
theorem layS_map (g:S145→S147) (hg:∀ x,(g x).f0 = x.f0) (out:List S145) (s:S145):(layS out s).map g = (out.map g).filter (fun x => lessK x.f0 s.f0)++(if s.f3 = -1 then [] else [g s])++(out.map g).filter (fun x => lessK s.f0 x.f0):=by
 unfold layS
 rw [List.map_append,List.map_append,List.filter_map,List.filter_map]
 have e1:((fun x:S147 => lessK x.f0 s.f0) ∘ g) = fun x => lessK x.f0 s.f0:=funext fun x => by simp [hg]
 have e2:((fun x:S147 => lessK s.f0 x.f0) ∘ g) = fun x => lessK s.f0 x.f0:=funext fun x => by simp [hg]
 rw [e1,e2]
 congr 2
 split
 ·rfl
 ·rfl
theorem pairsUp_map (g:S145→S147) (hg:∀ x,(g x).f0 = x.f0) {out:List S145} (h:keysUp out):pairsUp (out.map g):=by
 unfold pairsUp
 rw [List.pairwise_map]
 exact h.imp fun {x y} hxy => by rw [hg,hg];exact hxy
theorem layS_cut (g:S145→S147) (hg:∀ x,(g x).f0 = x.f0) {out:List S145} (h:keysUp out) {s:S145} (hs:s.f3 = -1):(layS out s).map g = cutP s.f0 (out.map g):=by
 rw [layS_map g hg,if_pos hs,List.append_nil,cutP_parts _ (pairsUp_map g hg h)]
theorem layS_put (g:S145→S147) (hg:∀ x,(g x).f0 = x.f0) (out:List S145) {s:S145} (hs:¬ s.f3 = -1):(layS out s).map g = putP s.f0 (g s).f1 (out.map g):=by
 rw [layS_map g hg,if_neg hs]
 unfold putP
 rw [←hg s]
def mapDone (r:List S147):List S147×Bool:=if mapOk r = true then (r,true) else ([],false)
theorem spec_MapDo_loop (d':List S122) (z bs:Int) (hz:True) (bl:List S162) (hbl:bl.length≤60) (hv:∀ x∈bl,x.f1.size≤40):∀ (rest:List S162) (n:Nat) (a b:Int) (dir:List S145),bl.drop n = rest→At (ZD (segT z) d') a (rest.flatMap Z0V) b→keysUp dir→dir.length + rest.length≤1000→Ev (fun k => Z00.l0 k (dir.map (pairAt d')) (n:Int) bs bl) (mapDone (((spotsAt z a rest).foldl layS dir).map (pairAt d'))):=by
 intro rest
 induction rest with
 | nil =>
  intro n a b dir h hat hu hl
  have:=ZA h
  rw [List.length_nil] at hl
  refine Ev.step (fun _ => rfl) ?_
  simp only [Z00.l0]
  refine Ev.neg (by omega) (Ev.bind (spec_MapOk_ev _ (by rw [List.length_map];omega)) ?_)
  rw [spotsAt,List.foldl_nil,mapDone]
  exact Ev.ite (fun e => Ev.done (by rw [if_pos e])) (fun e => Ev.done (by rw [if_neg e]))
 | cons x t ih =>
  intro n a b dir h hat hu hl
  obtain ⟨h1,-,h3⟩:=Zg h
  have hx:=hv x (List.mem_of_mem_drop (h ▸ List.mem_cons_self))
  rw [List.length_cons] at hl
  rw [List.flatMap_cons] at hat
  obtain ⟨p1,p2⟩:=hat.split
  have hcl:=change_len x
  have p1':=p1
  unfold Z0V at p1'
  obtain ⟨-,q2⟩:=p1'.split
  rw [show flagL x.f2::Go.Ep.sh x.f1 = [flagL x.f2]++(varL x.f1.size++bytesOf x.f1) from rfl] at q2
  obtain ⟨-,q3⟩:=q2.split
  obtain ⟨-,q4⟩:=q3.split
  have l0:(Go.Ep.sh x.f0).length = (ZJ x.f0).size:=by rw [←bytesOf_shortText,Zk]
  have l1:(varL x.f1.size).length = (Zv x.f1.size).size:=by rw [←bytesOf_varText,Zk]
  rw [l0,l1] at q4
  rw [hcl] at p2
  have hle:=q4.le
  rw [Zk] at hle
  refine Ev.step (fun _ => rfl) ?_
  simp only [Z00.l0,rdT162_drop h,Z4 (show n≤9223372036854775806 by omega)]
  have hpair:∀ y:S145,(pairAt d' y).f0 = y.f0:=fun y => rfl
  have hlay:∀ s:S145,(layS dir s).length≤dir.length + 1:=fun s => laySl dir s
  rw [spotsAt,List.foldl_cons]
  have ea:a + ((ZJ x.f0).size:Int) + 1 + ((Zv x.f1.size).size:Int) + (x.f1.size:Int) = a + (((ZJ x.f0).size + 1 + (Zv x.f1.size).size + x.f1.size:Nat):Int):=by omega
  rw [ea]
  refine Ev.pos (by omega) (Ev.pos (by omega) (Ev.ite (fun e => ?_) (fun e => ?_)))
  ·rw [if_pos e]
   have hs:=hlay (⟨x.f0,z,0,-1⟩:S145)
   refine Ev.bind (spec_l06Cut_ev _ (by rw [List.length_map];omega) x.f0) ?_
   rw [←layS_cut (pairAt d') hpair hu (s:=(⟨x.f0,z,0,-1⟩:S145)) rfl]
   exact ih (n + 1) _ b _ h3 p2 (keysUp_lay hu _) (by omega)
  ·rw [if_neg e]
   obtain ⟨sp,hsp⟩:∃ sp:S145,sp = ⟨x.f0,z,a + ((ZJ x.f0).size:Int) + 1 + ((Zv x.f1.size).size:Int),(x.f1.size:Int)⟩:=⟨_,rfl⟩
   rw [←hsp]
   have hs:=hlay sp
   have hval:(pairAt d' sp).f1 = x.f1:=by
    rw [hsp]
    unfold pairAt
    dsimp only
    apply bytesOf_inj
    rw [←extract_at q4]
    have hb:=q4.2.1
    simp only [List.length_singleton,Zk] at hb
    congr 2
    all_goals ((try simp only [List.length_singleton,Zk]);omega)
   have hn:¬ sp.f3 = -1:=by rw [hsp];dsimp only;omega
   refine Ev.bind (spec_l06Put_ev _ (by rw [List.length_map];omega) x.f0 x.f1) ?_
   have e2:=layS_put (pairAt d') hpair dir hn
   rw [hval,show sp.f0 = x.f0 by rw [hsp]] at e2
   rw [←e2]
   exact ih (n + 1) _ b _ h3 p2 (keysUp_lay hu _) (by omega)
theorem rb_bat {rb:RBf} (hrb:∀ c,c.size≤9000→RB c (rb c)) {bs:Int} {bl:List S162} (h:(Z7 bs bl).2 = true):rb (Z7 bs bl).1 = (bs,bl,true)∧okRec (Z7 bs bl).1:=by
 have hs:=batchText_size bs bl
 have e:Z7 bs bl = ((Z7 bs bl).1,true):=Prod.ext rfl h
 have hz:=batch_size e
 have:=varText_pos bs.toNat
 exact ⟨Ev.uniq (hrb _ (by omega)).1 (spec_ReadBatch_good _ (by omega) bs bl e),by omega,by omega⟩
theorem segT_eq {a b:Int} (ha:0≤a∧a≤999) (hb:0≤b∧b≤999) (h:segT a = segT b):a = b:=by
 have:=segT_inj (a:=a.toNat) (b:=b.toNat) (by omega) (by omega) (by rw [show ((a.toNat:Nat):Int) = a by omega,show ((b.toNat:Nat):Int) = b by omega];exact h)
 omega
theorem segT_head {a:Int} (ha:0≤a∧a≤999) (x:Int) (t:List Int) (hx:x≠103):bytesOf (segT a)≠x::t:=fun h => by
 rw [show a = ((a.toNat:Nat):Int) by omega,segT_nat (by omega),Z0z] at h
 rw [show bytesOf (⟨#[103]⟩:ByteArray) = [103] from rfl] at h
 injection h with h1 h2
 exact hx h1.symm
theorem segT_m {a:Int} (ha:0≤a∧a≤999):segT a≠⟨#[109]⟩∧segT a≠⟨#[109,43]⟩ :=
 ⟨fun h => segT_head ha 109 [] (by decide) (by rw [h];rfl),fun h => segT_head ha 109 [43] (by decide) (by rw [h];rfl)⟩
theorem rise_pw (lo hi:Int):∀ (l:List Int) (p:Option Int),rise lo hi p l = true→l.Pairwise (· < ·)∧∀ q,p = some q→∀ x∈l,q < x
 | [],_,_ => ⟨List.Pairwise.nil,fun _ _ x hx => by cases hx⟩
 | x::t,p,h => by
  have hh:rise lo hi (some x) t = true∧∀ q,p = some q→q < x:=by
   cases p with
   | none => simp only [rise,Bool.and_eq_true] at h;exact ⟨h.2,fun q e => by cases e⟩
   | some q => simp only [rise,Bool.and_eq_true] at h;exact ⟨h.2.2,fun q' e => by injection e with e;subst e;exact of_decide_eq_true h.2.1⟩
  obtain ⟨i1,i2⟩:=rise_pw lo hi t (some x) hh.1
  have i2:=i2 x rfl
  refine ⟨List.Pairwise.cons i2 i1,fun q hq y hy => ?_⟩
  have:=hh.2 q hq
  rcases List.mem_cons.1 hy with rfl | hy
  ·exact this
  ·have:=i2 y hy;omega
theorem manOk_segs {segs:List Int} {nx ba bt:Int} {cf:List Int} (h:manOk segs nx ba bt cf = true):segs.Pairwise (· < ·)∧(∀ x∈segs,x < nx):=by
 have hb:=(Z0b h).2.2.2.2.2.1
 simp only [manOk,Bool.and_eq_true] at h
 refine ⟨(rise_pw _ _ _ _ h.2.2.1).1,fun x hx => ?_⟩
 have hr:=h.2.2.1
 have:∀ (l:List Int) (p:Option Int),rise 0 (nx - 1) p l = true→∀ x∈l,x≤nx - 1:=by
  intro l
  induction l with
  | nil => intro p _ x hx;cases hx
  | cons y t ih =>
   intro p h x hx
   have hy:inR y 0 (nx - 1) = true∧rise 0 (nx - 1) (some y) t = true:=by
    cases p with
    | none => simp only [rise,Bool.and_eq_true] at h;exact h
    | some q => simp only [rise,Bool.and_eq_true] at h;exact ⟨h.1,h.2.2⟩
   rcases List.mem_cons.1 hx with rfl | hx
   ·exact (Zu.1 hy.1).2
   ·exact ih _ hy.2 x hx
 have:=this segs none hr x hx
 omega
theorem changes_at {bs:Int} {bl:List S162} (h:(Z7 bs bl).2 = true) (T:ByteArray):At (T++(frame (Z7 bs bl).1).1) ((T.size:Int) + ((frame (Z7 bs bl).1).1.size:Int) - ((Z7 bs bl).1.size:Int) + ((Zv bs.toNat).size:Int) + ((Zv bl.length).size:Int)) (bl.flatMap Z0V) ((T.size + (frame (Z7 bs bl).1).1.size:Nat):Int):=by
 have e:Z7 bs bl = ((Z7 bs bl).1,true):=Prod.ext rfl h
 have hz:=batch_size e
 have hv:=varText_pos bs.toNat
 have hs:=batchText_size bs bl
 have hok:okRec (Z7 bs bl).1:=⟨by omega,by omega⟩
 have hf:=frame_sz (c:=(Z7 bs bl).1) hok
 have hw:=At.whole (T++(frame (Z7 bs bl).1).1)
 rw [Z0z,(frame_by hok).1,(batch_parts e).2] at hw
 obtain ⟨-,hw⟩:=hw.split
 obtain ⟨-,hw⟩:=hw.split
 obtain ⟨-,hw⟩:=hw.split
 obtain ⟨-,hw⟩:=hw.split
 obtain ⟨-,hw⟩:=hw.split
 have l1:(varL bs.toNat).length = (Zv bs.toNat).size:=by rw [←bytesOf_varText,Zk]
 have l2:(varL bl.length).length = (Zv bl.length).size:=by rw [←bytesOf_varText,Zk]
 have l3:(varL (Z7 bs bl).1.size).length = (Zv (Z7 bs bl).1.size).size:=by rw [←bytesOf_varText,Zk]
 have l4:(bytesOf (four (sumOf (Z7 bs bl).1))).length = 4:=by rw [Zk,four_size]
 rw [l1,l2,l3,l4,Zk,size_append] at hw
 have ea:(0:Int) + (T.size:Int) + ((Zv (Z7 bs bl).1.size).size:Int) + ((4:Nat):Int) + ((Zv bs.toNat).size:Int) + ((Zv bl.length).size:Int) = (T.size:Int) + ((frame (Z7 bs bl).1).1.size:Int) - ((Z7 bs bl).1.size:Int) + ((Zv bs.toNat).size:Int) + ((Zv bl.length).size:Int):=by omega
 rw [ea] at hw
 exact hw
theorem scan_more {rb:RBf} (hrb:∀ c,c.size≤9000→RB c (rb c)) {bs:Int} {bl:List S162} (h:(Z7 bs bl).2 = true) {T:ByteArray} (hT:fullT rb T) (hs:T.size + (frame (Z7 bs bl).1).1.size≤20000) (seg:Int):scanOn rb seg 0 (ZY (T++(frame (Z7 bs bl).1).1)).1 ([],[],-1) = ((scanOn rb seg 0 (ZY T).1 ([],[],-1)).1++spotsAt seg ((T.size:Int) + ((frame (Z7 bs bl).1).1.size:Int) - ((Z7 bs bl).1.size:Int) + ((Zv bs.toNat).size:Int) + ((Zv bl.length).size:Int)) bl,(scanOn rb seg 0 (ZY T).1 ([],[],-1)).2.1++[(Z7 bs bl).1],mx (scanOn rb seg 0 (ZY T).1 ([],[],-1)).2.2 bs)∧fullT rb (T++(frame (Z7 bs bl).1).1):=by
 obtain ⟨e,hok⟩:=rb_bat hrb h
 obtain ⟨p1,p2,-⟩:=full_parts hT
 have hsum:=(unframe_sum T).1
 have hu:=unframe_snoc hT hok hs
 have hfs:frSum 0 (ZY T).1 = (T.size:Int):=by omega
 constructor
 ·rw [hu]
  dsimp only
  rw [scanOn_snoc rb seg _ (by rw [e]) _ 0 _ (fun x hx => (p1 x hx).1),hfs,e]
 ·unfold fullT
  rw [hu]
  dsimp only
  rw [endOn_good_all rb _ 0 (fun c hc => ?_)]
  ·have:=(unframe_sum (T++(frame (Z7 bs bl).1).1)).1
   rw [hu] at this
   dsimp only at this
   rw [this,size_append]
  ·rcases List.mem_append.1 hc with hc | hc
   ·exact (p1 c hc).1
   ·obtain rfl:=List.mem_singleton.1 hc;rw [e]
theorem full_empty (rb:RBf):fullT rb ⟨#[]⟩:=by
 obtain ⟨h1,h2⟩:=unframe_sum ⟨#[]⟩
 have h3:=endOn_le rb (ZY ⟨#[]⟩).1 0
 obtain ⟨b1,b2⟩:=unframe_back ⟨#[]⟩
 have:=b2.le
 have hz:((⟨#[]⟩:ByteArray).size:Int) = 0:=rfl
 have hl:=frs_len_ge _ b1
 have he:(ZY ⟨#[]⟩).1 = []:=List.length_eq_zero_iff.1 (by omega)
 unfold fullT
 rw [he];rfl
theorem putRaws_ok {d:List S122} (hd:Z0B d = true) (l:List S119):Z0B (Z0m d l).1 = true∨(Z0m d l).1 = []:=by
 unfold Z0m
 split
 ·exact .inl (putRawsOf_bounds l d 0 hd).1
 ·exact .inr rfl
structure Added (rb:RBf) (rm:RMf) (d d':List S122) (s0:List Int) (b:Int) (bs:Int) (bl:List S162) (s1:List Int) (z:Int) (T:ByteArray):Prop where
 same:∀ n∈s0,n = z∨ZD (segT n) d' = ZD (segT n) d
 text:ZD (segT z) d' = T++(frame (Z7 bs bl).1).1
 full:fullT rb T
 size:T.size + (frame (Z7 bs bl).1).1.size≤20000
 segs:(∃ init,s0 = init++[z]∧s1 = s0∧z ∉ init∧T = ZD (segT z) d)∨(s1 = s0++[z]∧z ∉ s0∧T = ⟨#[]⟩)
theorem segScan_same {rb:RBf} {d d':List S122} {n:Int} (h:ZD (segT n) d' = ZD (segT n) d):Z1a rb d' n = Z1a rb d n:=by unfold Z1a;rw [h]
theorem spotsOn_same {rb:RBf} {d d':List S122}:∀ (l:List Int),(∀ n∈l,ZD (segT n) d' = ZD (segT n) d)→spotsOn rb d' l = spotsOn rb d l∧∀ st,stampOn rb d' st l = stampOn rb d st l
 | [],_ => ⟨rfl,fun _ => rfl⟩
 | n::t,h => by
  obtain ⟨i1,i2⟩:=spotsOn_same t (fun y hy => h y (List.mem_cons_of_mem _ hy))
  have e:=segScan_same (rb:=rb) (h n List.mem_cons_self)
  refine ⟨?_,fun st => ?_⟩
  ·unfold spotsOn at i1 ⊢
   rw [List.flatMap_cons,List.flatMap_cons,i1,e]
  ·unfold stampOn at i2 ⊢
   rw [List.foldl_cons,List.foldl_cons,e,i2]
def offOf (T:ByteArray) (bs:Int) (bl:List S162):Int:=(T.size:Int) + ((frame (Z7 bs bl).1).1.size:Int) - ((Z7 bs bl).1.size:Int) + ((Zv bs.toNat).size:Int) + ((Zv bl.length).size:Int)
theorem mx_assoc (a b c:Int):mx a (mx b c) = mx (mx a b) c:=by unfold mx;(repeat' split) <;> omega
theorem mx_neg {s:Int} (h:0≤s):mx s (-1) = s:=by unfold mx;rw [if_neg (by omega)]
theorem added_spots {rb:RBf} (hrb:∀ c,c.size≤9000→RB c (rb c)) {rm:RMf} {d d':List S122} {s0:List Int} {b bs:Int} {bl:List S162} {s1:List Int} {z:Int} {T:ByteArray} (h:Added rb rm d d' s0 b bs bl s1 z T) (hk:(Z7 bs bl).2 = true) :
  spotsOn rb d' s1 = spotsOn rb d s0++spotsAt z (offOf T bs bl) bl∧∀ st,0≤st→stampOn rb d' st s1 = mx (stampOn rb d st s0) bs:=by
 obtain ⟨e1,e2⟩:=scan_more hrb hk h.full h.size z
 have ez:Z1a rb d' z = ((scanOn rb z 0 (ZY T).1 ([],[],-1)).1++spotsAt z (offOf T bs bl) bl,(scanOn rb z 0 (ZY T).1 ([],[],-1)).2.1++[(Z7 bs bl).1],mx (scanOn rb z 0 (ZY T).1 ([],[],-1)).2.2 bs):=by
  unfold Z1a
  rw [h.text]
  exact e1
 rcases h.segs with ⟨init,rfl,rfl,hz,hT⟩ | ⟨rfl,hz,hT⟩
 ·obtain ⟨i1,i2⟩:=spotsOn_same (rb:=rb) init (fun n hn => (h.same n (List.mem_append_left _ hn)).resolve_left (fun e => hz (e ▸ hn)))
  have eo:Z1a rb d z = scanOn rb z 0 (ZY T).1 ([],[],-1):=by unfold Z1a;rw [hT]
  refine ⟨?_,fun st _ => ?_⟩
  ·unfold spotsOn at i1 ⊢
   rw [List.flatMap_append,List.flatMap_append,i1,List.flatMap_singleton,List.flatMap_singleton,ez,eo,List.append_assoc]
  ·have i2:=i2 st
   unfold stampOn at i2 ⊢
   rw [List.foldl_append,List.foldl_append,i2,List.foldl_cons,List.foldl_nil,List.foldl_cons,List.foldl_nil,ez,eo]
   exact mx_assoc _ _ _
 ·obtain ⟨i1,i2⟩:=spotsOn_same (rb:=rb) s0 (fun n hn => (h.same n hn).resolve_left (fun e => hz (e ▸ hn)))
  have hE:(ZY T).1 = []:=by
   rw [hT]
   obtain ⟨b1,b2⟩:=unframe_back ⟨#[]⟩
   have:=b2.le
   have hz:((⟨#[]⟩:ByteArray).size:Int) = 0:=rfl
   have hl:=frs_len_ge _ b1
   exact List.length_eq_zero_iff.1 (by omega)
  rw [hE] at ez
  simp only [scanOn,List.nil_append] at ez
  refine ⟨?_,fun st hst => ?_⟩
  ·unfold spotsOn at i1 ⊢
   rw [List.flatMap_append,i1,List.flatMap_singleton,ez]
  ·have hm:∀ (l:List Int) (s:Int),0≤s→0≤stampOn rb d s l:=by
    intro l
    induction l with
    | nil => intro s hs;exact hs
    | cons n t ih =>
     intro s hs
     unfold stampOn at ih ⊢
     rw [List.foldl_cons]
     exact ih _ (by unfold mx;split <;> omega)
   have h0:=hm s0 st hst
   have i2:=i2 st
   unfold stampOn at i2 h0 ⊢
   rw [List.foldl_append,i2,List.foldl_cons,List.foldl_nil,ez]
   dsimp only
   rw [mx_assoc,mx_neg h0]
theorem pairAt_same {d d':List S122} {x:S145} {w:ByteArray} (h:ZD (segT x.f1) d' = ZD (segT x.f1) d++w) (hx:x.f2 + x.f3≤((ZD (segT x.f1) d).size:Int)):pairAt d' x = pairAt d x:=by
 unfold pairAt
 rw [h]
 have:(ZD (segT x.f1) d++w).extract x.f2.toNat (x.f2 + x.f3).toNat = (ZD (segT x.f1) d).extract x.f2.toNat (x.f2 + x.f3).toNat:=by
  apply bytesOf_inj
  rw [bytesOf_extract,bytesOf_extract,Z0z,List.take_append_of_le_length (by rw [Zk];omega)]
 rw [this]
theorem added_pairs {rb:RBf} {rm:RMf} {d d':List S122} {s0:List Int} {b bs:Int} {bl:List S162} {s1:List Int} {z:Int} {T:ByteArray} (h:Added rb rm d d' s0 b bs bl s1 z T) {x:S145} (hx:x.f1∈s0) (hl:x.f2 + x.f3≤((ZD (segT x.f1) d).size:Int)):pairAt d' x = pairAt d x:=by
 rcases h.same x.f1 hx with e | e
 ·rcases h.segs with ⟨init,-,-,-,hT⟩ | ⟨-,hz,-⟩
  ·refine pairAt_same (w:=(frame (Z7 bs bl).1).1) ?_ hl
   rw [e,h.text,hT]
  ·exact absurd (e ▸ hx) hz
 ·refine pairAt_same (w:=⟨#[]⟩) ?_ hl
  rw [e]
  exact bytesOf_inj (by rw [Z0z];simp [bytesOf])
theorem notm {a:Int} (ha:0≤a∧a≤999):(⟨#[109]⟩:ByteArray)≠segT a∧(⟨#[109,43]⟩:ByteArray)≠segT a:=⟨fun h => (segT_m ha).1 h.symm,fun h => (segT_m ha).2 h.symm⟩
theorem mm:(⟨#[109]⟩:ByteArray)≠⟨#[109,43]⟩:=fun h => by have:=congrArg ByteArray.size h;exact absurd this (by decide)
theorem add_added {rb:RBf} (hrb:∀ c,c.size≤9000→RB c (rb c)) {rm:RMf} (hrm:∀ s,s.size≤1000000→RM s (rm s)) {d:List S122} {s0:List Int} {a b c:Int} {s4:List Int} {dir:List S145} {st:Int} (h:ZU rb rm d = (s0,a,b,c,s4,dir,st,[],0)) {bs:Int} {bl:List S162} (hk:(Z7 bs bl).2 = true)
  (hp:(Z0m d (Z0G d s0 a b c s4 (frame (Z7 bs bl).1).1)).2 = ((Z0G d s0 a b c s4 (frame (Z7 bs bl).1).1).length:Int)) :
  ∃ s1 a1 z T,Added rb rm d (Z0m d (Z0G d s0 a b c s4 (frame (Z7 bs bl).1).1)).1 s0 b bs bl s1 z T∧manAt rm (Z0m d (Z0G d s0 a b c s4 (frame (Z7 bs bl).1).1)).1 = (s1,a1,b,c,s4,true)∧0≤z∧z≤999:=by
 obtain ⟨g1,g2,g3,g4,g5,g6,g7,g8,g9,g10,g11⟩:=clean_parts hrm h
 obtain ⟨hdl,hup⟩:=diskOk_up g1
 obtain ⟨b1,b2,-,-,b5,b6,-⟩:=Z0b g2
 obtain ⟨sp,sn⟩:=manOk_segs g2
 obtain ⟨init,z,hz⟩:∃ init z,s0 = init++[z]:=by
  rcases List.eq_nil_or_concat s0 with rfl | ⟨i,z,e⟩
  ·simp at b1
  ·exact ⟨i,z,by rw [e];simp⟩
 have hzi:z∈s0:=by rw [hz];simp
 have hlast:lastOf s0 = z:=by rw [hz,lastOf_snoc]
 obtain ⟨f,hf⟩:∃ f,f = (frame (Z7 bs bl).1).1:=⟨_,rfl⟩
 rw [←hf] at hp ⊢
 have hl:=(addList_small d s0 a b c s4 (Z7 bs bl).1).1
 rw [←hf] at hl
 obtain ⟨q1,q2⟩:=putRaws_done g1 (by omega) hp
 have hok:=putRaws_ok g1 (Z0G d s0 a b c s4 f)
 unfold Z0G at hp q1 q2 hok ⊢
 by_cases hc:((ZD (segT (lastOf s0)) d).size:Int)≥500∧s0.length < 8∧a≤999
 ·rw [if_pos hc] at q1 q2 hok ⊢
  have ha:0≤a∧a≤999:=⟨b2.1,hc.2.2⟩
  obtain ⟨man,hman⟩:∃ man,man = (Z0N (s0++[a]) (a + 1) b c s4).1:=⟨_,rfl⟩
  rw [←hman] at q1 hok ⊢
  have e1:∀ d1:List S122,putRawOf d1 ⟨1,segT a,⟨#[]⟩,f⟩ = putF (segT a) f d1:=fun _ => rfl
  have e2:∀ d1:List S122,putRawOf d1 ⟨1,⟨#[109,43]⟩,⟨#[]⟩,man⟩ = putF ⟨#[109,43]⟩ man d1:=fun _ => rfl
  have e3:∀ d1:List S122,putRawOf d1 ⟨3,⟨#[109,43]⟩,⟨#[109]⟩,⟨#[]⟩⟩ = putF ⟨#[109]⟩ (ZD ⟨#[109,43]⟩ d1) (dropF ⟨#[109,43]⟩ d1):=fun d1 => by
   unfold putRawOf
   rw [if_neg (by decide),if_neg (by decide),if_pos rfl,if_neg mm]
  simp only [List.foldl_cons,List.foldl_nil] at q1
  rw [e1,e2,e3] at q1
  have u1:=putF_up (name:=segT a) (text:=f) hup
  have u2:=putF_up (name:=⟨#[109,43]⟩) (text:=man) u1
  have u3:=dropF_up ⟨#[109,43]⟩ u2
  have tm:ZD ⟨#[109,43]⟩ (putF ⟨#[109,43]⟩ man (putF (segT a) f d)) = man:=by rw [putF_text u1,if_pos rfl]
  rw [tm] at q1
  have tx:∀ key:ByteArray,key≠⟨#[109]⟩→key≠⟨#[109,43]⟩→ZD key (Z0m d [⟨1,segT a,⟨#[]⟩,f⟩,⟨1,⟨#[109,43]⟩,⟨#[]⟩,man⟩,⟨3,⟨#[109,43]⟩,⟨#[109]⟩,⟨#[]⟩⟩]).1 = if key = segT a then f else ZD key d:=fun key k1 k2 => by
   rw [q1,putF_text u3,if_neg k1,dropF_text u2 k2,putF_text u1,if_neg k2,putF_text hup]
  have hnot:a ∉ s0:=fun e => by have:=sn a e;omega
  have hfa:ZD (segT a) (Z0m d [⟨1,segT a,⟨#[]⟩,f⟩,⟨1,⟨#[109,43]⟩,⟨#[]⟩,man⟩,⟨3,⟨#[109,43]⟩,⟨#[109]⟩,⟨#[]⟩⟩]).1 = f:=by rw [tx _ (segT_m ha).1 (segT_m ha).2,if_pos rfl]
  have hnext:=manOk_next g2 hc.2.1 hc.2.2
  have hz8:=frame_le8 (Z7 bs bl).1
  refine ⟨s0++[a],a + 1,a,⟨#[]⟩,⟨fun n hn => ?_,?_,full_empty rb,?_,.inr ⟨rfl,hnot,rfl⟩⟩,?_,ha.1,ha.2⟩
  ·refine .inr ?_
   have hn9:=b6 n hn
   rw [tx _ (segT_m hn9).1 (segT_m hn9).2,if_neg (fun e => hnot ((segT_eq hn9 ha e) ▸ hn))]
  ·rw [hfa,←hf]
   exact bytesOf_inj (by rw [Z0z];simp [bytesOf])
  ·show 0 + _≤_;omega
  ·unfold manAt
   rw [q1,putF_text u3,if_pos rfl,hman]
   exact rm_man hrm (manText_ok hnext)
 ·rw [if_neg hc] at q1 q2 hok ⊢
  rw [hlast] at q1 q2 hok ⊢
  have hz9:=b6 z hzi
  have e1:putRawOf d ⟨2,segT z,⟨#[]⟩,f⟩ = putF (segT z) (ZD (segT z) d++f) d:=rfl
  simp only [List.foldl_cons,List.foldl_nil] at q1
  rw [e1] at q1
  have hm:=notm hz9
  have hzT:ZD (segT z) (putF (segT z) (ZD (segT z) d++f) d) = ZD (segT z) d++f:=by rw [putF_text hup,if_pos rfl]
  have hni:z ∉ init:=fun e => by
   rw [hz,List.pairwise_append] at sp
   have:=sp.2.2 z e z (by simp)
   omega
  have hdk:Z0B (putF (segT z) (ZD (segT z) d++f) d) = true:=by
   rw [q1] at hok
   rcases hok with hok | hok
   ·exact hok
   ·exfalso
    have:(⟨segT z,ZD (segT z) d++f⟩:S122)∈putF (segT z) (ZD (segT z) d++f) d:=putF_mem.2 (.inr rfl)
    rw [hok] at this;cases this
  have hsz:=textAt_size hdk (segT z)
  rw [hzT,size_append,hf] at hsz
  refine ⟨s0,a,z,ZD (segT z) d,⟨fun n hn => ?_,by rw [q1,hzT,hf],g8 z hzi,hsz,.inl ⟨init,hz,rfl,hni,rfl⟩⟩,?_,hz9.1,hz9.2⟩
  ·by_cases e:n = z
   ·exact .inl e
   ·refine .inr ?_
    rw [q1,putF_text hup,if_neg (fun k => e (segT_eq (b6 n hn) hz9 k))]
  ·unfold manAt at g4 ⊢
   rw [q1,putF_text hup,if_neg hm.1]
   exact g4
theorem dir_in {rb:RBf} (hrb:∀ c,c.size≤9000→RB c (rb c)) {d:List S122} {s0:List Int}:∀ x∈(spotsOn rb d s0).foldl layS [],x.f1∈s0∧0≤x.f2∧0≤x.f3∧x.f2 + x.f3≤((ZD (segT x.f1) d).size:Int):=fun x hx => by
 rcases lay_mem _ [] x hx with hx | ⟨hx,hn⟩
 ·cases hx
 unfold spotsOn at hx
 obtain ⟨n,hn',hx⟩:=List.mem_flatMap.1 hx
 obtain ⟨h1,h2⟩:=segScan_in hrb d n x hx
 rw [h1]
 rcases h2 with h2 | ⟨h2,h3,h4⟩
 ·exact absurd h2 hn
 ·exact ⟨hn',h2,h3,h4⟩
theorem mapDo_make {l:List S147} (hl:l.length≤1048576) {bs:Int} {bl:List S162} (h1:mapOk l = true) (h2:batchOk bs bl = true) {r:List S147×Bool} (h:Ev (fun k => Z00.l0 k l 0 bs bl) r):Ev (fun k => Z00.f k l bs bl) r:=by
 have hb:=(Z0Q h2).2.1
 unfold Z00.f
 refine Ev.bind (Ev.eq (spec_MapOk_ev l hl) h1) (Ev.pos rfl (Ev.bind (Ev.eq (spec_BatchOk_ev bs bl (by omega)) h2) (Ev.step (fun _ => rfl) ?_)))
 simp only [Z00.j0]
 exact Ev.neg (by simp) (Ev.call rfl (Ev.pos (by simp;omega) h))
theorem add_map {rb:RBf} (hrb:∀ c,c.size≤9000→RB c (rb c)) {rm:RMf} (hrm:∀ s,s.size≤1000000→RM s (rm s)) {d:List S122} {s0:List Int} {a b c:Int} {s4:List Int} {dir:List S145} {st:Int} (h:ZU rb rm d = (s0,a,b,c,s4,dir,st,[],0)) {bs:Int} {bl:List S162} (hk:(Z7 bs bl).2 = true)
  (hp:(Z0m d (Z0G d s0 a b c s4 (frame (Z7 bs bl).1).1)).2 = ((Z0G d s0 a b c s4 (frame (Z7 bs bl).1).1).length:Int)) {t0:List Int} {t1 t2 t3:Int} {t4:List Int} {dir':List S145} {st':Int}
  (h':ZU rb rm (Z0m d (Z0G d s0 a b c s4 (frame (Z7 bs bl).1).1)).1 = (t0,t1,t2,t3,t4,dir',st',[],0)) :
  st' = mx st bs∧t2 = b∧Ev (fun k => Z00.f k (dir.map (pairAt d)) bs bl) (dir'.map (pairAt (Z0m d (Z0G d s0 a b c s4 (frame (Z7 bs bl).1).1)).1),true):=by
 obtain ⟨s1,a1,z,T,hA,hm,-,-⟩:=add_added hrb hrm h hk hp
 generalize (Z0m d (Z0G d s0 a b c s4 (frame (Z7 bs bl).1).1)).1 = d' at h' hA hm ⊢
 obtain ⟨g1,g2,g3,g4,g5,g6,g7,g8,g9,g10,g11⟩:=clean_parts hrm h
 obtain ⟨k1,k2,k3,k4,k5,k6,k7,k8,k9,k10,k11⟩:=clean_parts hrm h'
 rw [hm] at k4
 simp only [Prod.mk.injEq] at k4
 obtain ⟨rfl,rfl,rfl,rfl,rfl,-⟩:=k4
 obtain ⟨j1,j2⟩:=added_spots hrb hA hk
 have hb0:=(Z0b g2).2.2.1
 have hbatch:batchOk bs bl = true:=(batch_parts (s:=(Z7 bs bl).1) (Prod.ext rfl hk)).1
 obtain ⟨c1,c2,c3⟩:=Z0Q hbatch
 have hdl:=dirOk_small g9
 refine ⟨by rw [k11,j2 _ hb0.1,g11],rfl,?_⟩
 have ed:dir' = (spotsAt z (offOf T bs bl) bl).foldl layS dir:=by
  rw [k10,j1,List.foldl_append,←g10]
 have hsame:dir.map (pairAt d') = dir.map (pairAt d):=by
  refine List.map_congr_left fun x hx => ?_
  have hx':x∈(spotsOn rb d s0).foldl layS []:=by rw [←g10];exact hx
  obtain ⟨x1,-,-,x4⟩:=dir_in hrb x hx'
  exact added_pairs hA x1 x4
 have hup:keysUp dir:=(dirIn_up (by rw [dirOk,Bool.and_eq_true] at g9;exact g9.2)).1
 have hat:=changes_at hk T
 rw [←hA.text] at hat
 have hloop:=spec_MapDo_loop d' z bs trivial bl c2 (fun x hx => (c3 x hx).2) bl 0 _ _ dir rfl hat hup (by omega)
 rw [hsame] at hloop
 refine mapDo_make (by rw [List.length_map];omega) (mapOk_pairs g9) hbatch (Ev.eq hloop ?_)
 have ed':(spotsAt z ((T.size:Int) + ((frame (Z7 bs bl).1).1.size:Int) - ((Z7 bs bl).1.size:Int) + ((Zv bs.toNat).size:Int) + ((Zv bl.length).size:Int)) bl).foldl layS dir = dir':=ed.symm
 rw [ed',mapDone,if_pos (mapOk_pairs k9)]
theorem manText_le {segs:List Int} {nx ba bt:Int} {cf:List Int} (h:manOk segs nx ba bt cf = true):(Z0N segs nx ba bt cf).1.size≤100:=by
 obtain ⟨b1,b2,b3,b4,b5,b6,b7⟩:=Z0b h
 have hf:∀ (l:List Int),(∀ x∈l,0≤x∧x≤1000000)→(l.flatMap fun n => varL n.toNat).length≤5 * l.length:=by
  intro l hl
  induction l with
  | nil => simp
  | cons x t ih =>
   have hx:=hl x List.mem_cons_self
   have:=varL_len (show x.toNat≤34359738367 by omega)
   have:=ih (fun y hy => hl y (List.mem_cons_of_mem _ hy))
   rw [List.flatMap_cons,List.length_append,List.length_cons]
   omega
 have hn:(manNums segs nx ba bt cf).length = segs.length + cf.length + 5:=by simp only [manNums,List.length_cons,List.length_append];omega
 have hf:=hf (manNums segs nx ba bt cf) (fun x hx => by
  simp only [manNums,List.mem_cons,List.mem_append] at hx
  rcases hx with rfl | hx | rfl | rfl | rfl | rfl | hx
  ·omega
  ·have:=b6 x hx;omega
  ·omega
  ·omega
  ·omega
  ·omega
  ·have:=b7 x hx;omega)
 unfold Z0N
 rw [if_pos h]
 unfold sealT
 rw [if_neg (by rw [strOfNums_size];omega)]
 dsimp only
 rw [size_append,strOfNums_size,four_size]
 omega
theorem segT_toList {a:Int} (ha:0≤a∧a≤999):∃ t,(segT a).toList = 103::t:=by
 rw [show a = ((a.toNat:Nat):Int) by omega,segT_nat (by omega),ByteArray.toList_eq,ByteArray.data_append]
 exact ⟨(digT a.toNat).data.toList,by simp⟩
theorem segT_less_m {a:Int} (ha:0≤a∧a≤999):lessK (segT a) ⟨#[109]⟩ = true:=by
 obtain ⟨t,ht⟩:=segT_toList ha
 unfold lessK
 rw [ht,ByteArray.toList_eq]
 rfl
theorem unframe_none:(ZY ⟨#[]⟩).1 = []:=by
 obtain ⟨b1,b2⟩:=unframe_back ⟨#[]⟩
 have:=b2.le
 have hz:((⟨#[]⟩:ByteArray).size:Int) = 0:=rfl
 have hl:=frs_len_ge _ b1
 exact List.length_eq_zero_iff.1 (by omega)
theorem segNo_m (x:ByteArray) (h:∀ n:Int,0≤n∧n≤999→x≠segT n):segNo x = -1:=by
 rcases segNo_cases x with ⟨n,h1,h2,-⟩ | ⟨h1,-⟩
 ·exact absurd h2 (h n (by omega))
 ·exact h1
theorem format_clean (rb:RBf) {rm:RMf} (hrm:∀ s,s.size≤1000000→RM s (rm s)) {cf:List Int} (h:confOk cf = true):(formatShelf cf).2 = true∧ZU rb rm (formatShelf cf).1 = ([0],1,0,0,cf,[],0,[],0):=by
 have hk:manOk [0] 1 0 0 cf = true:=by unfold manOk;rw [h];rfl
 have hok:=manText_ok hk
 have hle:=manText_le hk
 have hrmm:=rm_man hrm hok
 unfold formatShelf
 rw [if_pos hok]
 refine ⟨rfl,?_⟩
 dsimp only
 generalize (Z0N [0] 1 0 0 cf).1 = man at hle hrmm
 have h0:(0:Int)≤0∧(0:Int)≤999:=by omega
 have hs0:(segT 0).size≤12∧1≤(segT 0).size:=by
  have:=segT_size (n:=0) (by omega)
  have h3:=digT_size3 (n:=0) (by omega)
  have e:segT 0 = segT ((0:Nat):Int):=rfl
  rw [e];omega
 have hl:=segT_less_m h0
 have hd:Z0B ([⟨segT 0,⟨#[]⟩⟩,⟨⟨#[109]⟩,man⟩]:List S122) = true:=by
  unfold lessK at hl
  unfold Z0B filesIn filesIn filesIn fileRise
  dsimp only
  rw [hl,Zu.2 (by omega),decide_eq_true (show man.size≤20000 by omega)]
  rfl
 obtain ⟨d,hdd⟩:∃ d:List S122,d = [⟨segT 0,⟨#[]⟩⟩,⟨⟨#[109]⟩,man⟩]:=⟨_,rfl⟩
 rw [←hdd] at hd ⊢
 have hu:=(diskOk_up hd).2
 have m0:(⟨segT 0,⟨#[]⟩⟩:S122)∈d:=by rw [hdd];simp
 have m1:(⟨⟨#[109]⟩,man⟩:S122)∈d:=by rw [hdd];simp
 have t0:=stands_mem hu m0
 have t1:=stands_mem hu m1
 dsimp only at t0 t1
 have hmem:∀ x∈d,x.f0 = segT 0∨x.f0 = ⟨#[109]⟩:=fun x hx => by
  rw [hdd] at hx
  simp only [List.mem_cons,List.not_mem_nil,or_false] at hx
  rcases hx with rfl | rfl
  ·exact .inl rfl
  ·exact .inr rfl
 have hsp:Z1a rb d 0 = ([],[],-1):=by unfold Z1a;rw [t0.2,unframe_none];rfl
 have e1:spotsOn rb d [0] = []:=by unfold spotsOn;rw [List.flatMap_singleton,hsp]
 have e2:stampOn rb d 0 [0] = 0:=by unfold stampOn;rw [List.foldl_cons,List.foldl_nil,hsp];exact mx_neg (by omega)
 have hc:=clean_make (rb:=rb) (rm:=rm) (d:=d) (s0:=[0]) (a:=1) (b:=0) (c:=0) (s4:=cf) hd t1.1 (by unfold manAt;rw [t1.2];exact hrmm) (by simp) (fun n hn => by obtain rfl:=List.mem_singleton.1 hn;exact t0.1) ?_ ?_ (fun n hn => by obtain rfl:=List.mem_singleton.1 hn;rw [t0.2];exact full_empty rb) (by rw [e1];rfl)
 ·rw [e1,e2] at hc
  exact hc
 ·unfold newDrop
  rw [if_neg]
  intro hn
  obtain ⟨x,hx,e⟩:=stands_ex hn
  rcases hmem x hx with k | k
  ·exact (notm h0).2 (e.symm.trans k)
  ·exact mm (k.symm.trans e)
 ·unfold dropsOf
  rw [List.filter_eq_nil_iff.2,List.map_nil]
  intro x hx
  unfold dropB
  rcases hmem x hx with k | k
  ·rw [k,show segT 0 = segT ((0:Nat):Int) from rfl,segNo_yes (by omega)];simp
  ·rw [k,segNo_m _ (fun n hn => (notm hn).1)];simp
def NextOf (rb:RBf) (rm:RMf) (d:List S122) (r:Aft):Prop:=r.2.2.2.2.2.2.2.2 = true→r.2.2.2.2.2.2.2.1.length≤60∧(∀ x∈r.2.2.2.2.2.2.2.1,x.f3.size≤1000000000)∧(Z0m d r.2.2.2.2.2.2.2.1).2 = (r.2.2.2.2.2.2.2.1.length:Int)∧ZU rb rm (Z0m d r.2.2.2.2.2.2.2.1).1 = (r.1,r.2.1,r.2.2.1,r.2.2.2.1,r.2.2.2.2.1,r.2.2.2.2.2.1,r.2.2.2.2.2.2.1,[],0)
theorem next_of {rb:RBf} {rm:RMf} {d:List S122} {l:List S119} (hl:l.length≤60) (h3:∀ x∈l,x.f3.size≤1000000000):NextOf rb rm d (afterOf rb rm d l):=fun hk => by
 obtain ⟨h1,h2,h4⟩:=after_eq rfl hk
 rw [h2]
 exact ⟨hl,h3,h1,h4⟩
theorem add_next (rb:RBf) (rm:RMf) (d:List S122) (s0:List Int) (a b c:Int) (s4:List Int) (dir:List S145) (st bs:Int) (bl:List S162):NextOf rb rm d (addOf rb rm d s0 a b c s4 dir st bs bl):=by
 unfold addOf
 split
 ·obtain ⟨m1,m2⟩:=addList_small d s0 a b c s4 (Z7 bs bl).1
  exact next_of (by omega) m2
 ·exact fun h => by cases h
theorem merge_next (rb:RBf) {rm:RMf} (hrm:∀ s,s.size≤1000000→RM s (rm s)) (d:List S122) (s0:List Int) (a b c:Int) (s4:List Int) (dir:List S145) (st base term:Int) (conf:List Int):NextOf rb rm d (mergeOf rb rm d s0 a b c s4 dir st base term conf):=by
 unfold mergeOf
 split
 ·rename_i h
  obtain ⟨-,g2,-⟩:=openIs_good hrm h.1
  have:=(Z0b g2).1
  unfold mergedOf
  split
  ·obtain ⟨m1,m2⟩:=mergedList_small s0 (by omega) a _ (frame_le (Z7 st ((dir.map (pairAt d)).map chOf)).1) base term conf
   exact next_of (by omega) m2
  ·exact fun h => by cases h
 ·exact fun h => by cases h
def Gd (rb:RBf) (rm:RMf) (d:List S122) (s0:List Int) (a b c:Int) (s4:List Int) (dir:List S145) (st:Int):Prop:=ZU rb rm d = (s0,a,b,c,s4,dir,st,[],0)
theorem Gd.small {rb:RBf} {rm:RMf} (hrm:∀ s,s.size≤1000000→RM s (rm s)) {d:List S122} {s0:List Int} {a b c:Int} {s4:List Int} {dir:List S145} {st:Int} (h:Gd rb rm d s0 a b c s4 dir st):d.length≤30∧s0.length≤8∧s4.length≤4∧dir.length≤60:=by
 obtain ⟨g1,g2,-,-,-,-,-,-,g9,-,-⟩:=clean_parts hrm h
 obtain ⟨b1,-,-,-,b5,-,-⟩:=Z0b g2
 exact ⟨(diskOk_up g1).1,b1.2,b5.2,dirOk_small g9⟩
def Grown (rb:RBf) (rm:RMf) (l:List Int) (r:List S122×List Int×Int×Int×Int×List Int×List S145×Int×List Int×Int×Int):Prop:=Gd rb rm r.1 r.2.1 r.2.2.1 r.2.2.2.1 r.2.2.2.2.1 r.2.2.2.2.2.1 r.2.2.2.2.2.2.1 r.2.2.2.2.2.2.2.1∧Cu l r.2.2.2.2.2.2.2.2.1 r.2.2.2.2.2.2.2.2.2.1
theorem spec_l09Grown_loop {rb:RBf} (hrb:∀ c,c.size≤9000→RB c (rb c)) {rm:RMf} (hrm:∀ s,s.size≤1000000→RM s (rm s)) {l:List Int} (hl:l.length≤140737488351232) (N:Int) (hN:N≤1000):∀ (m n:Nat) (x11:Int) (d:List S122) (s0:List Int) (a b c:Int) (s4:List Int) (dir:List S145) (st:Int) (s:List Int) (i y:Int),N.toNat - n≤m→n≤1000→Gd rb rm d s0 a b c s4 dir st→Cu l s i →
  To (fun k => Zn.l0 k N x11 (n:Int) [] [] 0 0 0 [] [] 0 d s0 a b c s4 dir st s i y) (Grown rb rm l):=by
 intro m
 induction m with
 | zero =>
  intro n x11 d s0 a b c s4 dir st s i y h1 h2 hg hc
  refine To.step (fun _ => rfl) ?_
  simp only [Zn.l0]
  exact To.neg (by omega) (To.now ⟨hg,hc⟩)
 | succ m ih =>
  intro n x11 d s0 a b c s4 dir st s i y h1 h2 hg hc
  have tail:∀ (x11:Int) (d:List S122) (s0:List Int) (a b c:Int) (s4:List Int) (dir:List S145) (st:Int) (s:List Int) (i y:Int),n < 1000→N.toNat - (n + 1)≤m→Gd rb rm d s0 a b c s4 dir st→Cu l s i →
    To (fun k => (Z0A.f s i y 7).bind fun t9 => (if t9.1 = true then ((Zo.f k d s0 a b c s4 dir st st 1 s4).bind fun t10 => (if t10.2.2.2.2.2.2.2.2 = true then ((Zl.f k d t10.2.2.2.2.2.2.2.1).bind fun t11 => (Zn.l0 k N x11 (((n + 1:Nat):Int)) [] [] 0 0 0 [] [] 0 t11.1 t10.1 t10.2.1 t10.2.2.1 t10.2.2.2.1 t10.2.2.2.2.1 t10.2.2.2.2.2.1 t10.2.2.2.2.2.2.1 t9.2.1 t9.2.2.1 t9.2.2.2)) else (Zn.l0 k N x11 (((n + 1:Nat):Int)) [] [] 0 0 0 [] [] 0 d s0 a b c s4 dir st t9.2.1 t9.2.2.1 t9.2.2.2))) else (Zn.l0 k N x11 (((n + 1:Nat):Int)) [] [] 0 0 0 [] [] 0 d s0 a b c s4 dir st t9.2.1 t9.2.2.1 t9.2.2.2))) (Grown rb rm l):=by
   intro x11 d s0 a b c s4 dir st s i y hn hm hg hc
   obtain ⟨w1,w2,w3,w4⟩:=hg.small hrm
   refine To.bind (spec_l01Once_to hl y hc 7) (fun t9 p9 => To.ite (fun _ => ?_) (fun _ => ih (n + 1) _ _ _ _ _ _ _ _ _ _ _ _ hm (by omega) hg p9))
   have hmg:=merge_next rb hrm d s0 a b c s4 dir st st 1 s4
   refine To.bind (P:=fun z => z = mergeOf rb rm d s0 a b c s4 dir st st 1 s4) (To.ev (spec_MergeShelf_ev rb hrb rm hrm d (by omega) s0 a b c s4 dir st st 1 s4 (by omega) (by omega) (by omega) (by omega)) rfl) (fun t10 e10 => ?_)
   subst e10
   refine To.ite (fun hk => ?_) (fun _ => ih (n + 1) _ _ _ _ _ _ _ _ _ _ _ _ hm (by omega) hg p9)
   obtain ⟨r1,r2,r3,r4⟩:=hmg hk
   refine To.bind (P:=fun z => z = Z0m d (mergeOf rb rm d s0 a b c s4 dir st st 1 s4).2.2.2.2.2.2.2.1) (To.ev (spec_PutRaws_ev d (by omega) _ (by omega) r2) rfl) (fun t11 e11 => ?_)
   subst e11
   exact ih (n + 1) _ _ _ _ _ _ _ _ _ _ _ _ hm (by omega) r4 p9
  obtain ⟨w1,w2,w3,w4⟩:=hg.small hrm
  have goOn:∀ (x11:Int) (bs:Int) (bl:List S162) (s:List Int) (i y:Int),bl.length≤1000→n < 1000→N.toNat - (n + 1)≤m→Cu l s i →
    To (fun k => (Za.f k d s0 a b c s4 dir st bs bl).bind fun t7 => (if t7.2.2.2.2.2.2.2.2 = true then ((Zl.f k d t7.2.2.2.2.2.2.2.1).bind fun t8 => ((Z0A.f s i y 7).bind fun t9 => (if t9.1 = true then ((Zo.f k t8.1 t7.1 t7.2.1 t7.2.2.1 t7.2.2.2.1 t7.2.2.2.2.1 t7.2.2.2.2.2.1 t7.2.2.2.2.2.2.1 t7.2.2.2.2.2.2.1 1 t7.2.2.2.2.1).bind fun t10 => (if t10.2.2.2.2.2.2.2.2 = true then ((Zl.f k t8.1 t10.2.2.2.2.2.2.2.1).bind fun t11 => (Zn.l0 k N x11 (((n + 1:Nat):Int)) [] [] 0 0 0 [] [] 0 t11.1 t10.1 t10.2.1 t10.2.2.1 t10.2.2.2.1 t10.2.2.2.2.1 t10.2.2.2.2.2.1 t10.2.2.2.2.2.2.1 t9.2.1 t9.2.2.1 t9.2.2.2)) else (Zn.l0 k N x11 (((n + 1:Nat):Int)) [] [] 0 0 0 [] [] 0 t8.1 t7.1 t7.2.1 t7.2.2.1 t7.2.2.2.1 t7.2.2.2.2.1 t7.2.2.2.2.2.1 t7.2.2.2.2.2.2.1 t9.2.1 t9.2.2.1 t9.2.2.2))) else (Zn.l0 k N x11 (((n + 1:Nat):Int)) [] [] 0 0 0 [] [] 0 t8.1 t7.1 t7.2.1 t7.2.2.1 t7.2.2.2.1 t7.2.2.2.2.1 t7.2.2.2.2.2.1 t7.2.2.2.2.2.2.1 t9.2.1 t9.2.2.1 t9.2.2.2)))) else ((Z0A.f s i y 7).bind fun t9 => (if t9.1 = true then ((Zo.f k d s0 a b c s4 dir st st 1 s4).bind fun t10 => (if t10.2.2.2.2.2.2.2.2 = true then ((Zl.f k d t10.2.2.2.2.2.2.2.1).bind fun t11 => (Zn.l0 k N x11 (((n + 1:Nat):Int)) [] [] 0 0 0 [] [] 0 t11.1 t10.1 t10.2.1 t10.2.2.1 t10.2.2.2.1 t10.2.2.2.2.1 t10.2.2.2.2.2.1 t10.2.2.2.2.2.2.1 t9.2.1 t9.2.2.1 t9.2.2.2)) else (Zn.l0 k N x11 (((n + 1:Nat):Int)) [] [] 0 0 0 [] [] 0 d s0 a b c s4 dir st t9.2.1 t9.2.2.1 t9.2.2.2))) else (Zn.l0 k N x11 (((n + 1:Nat):Int)) [] [] 0 0 0 [] [] 0 d s0 a b c s4 dir st t9.2.1 t9.2.2.1 t9.2.2.2))))) (Grown rb rm l):=by
   intro x11 bs bl s i y hbl hn hm hc
   have had:=add_next rb rm d s0 a b c s4 dir st bs bl
   refine To.bind (P:=fun z => z = addOf rb rm d s0 a b c s4 dir st bs bl) (To.ev (spec_AddBatch_ev rb hrb rm hrm d (by omega) s0 a b c s4 dir st bs bl (by omega) (by omega) (by omega) (by omega)) rfl) (fun t7 e7 => ?_)
   subst e7
   refine To.ite (fun hk => ?_) (fun _ => tail x11 d s0 a b c s4 dir st s i y hn hm hg hc)
   obtain ⟨r1,r2,r3,r4⟩:=had hk
   refine To.bind (P:=fun z => z = Z0m d (addOf rb rm d s0 a b c s4 dir st bs bl).2.2.2.2.2.2.2.1) (To.ev (spec_PutRaws_ev d (by omega) _ (by omega) r2) rfl) (fun t8 e8 => ?_)
   subst e8
   exact tail x11 _ _ _ _ _ _ _ _ s i y hn hm r4 hc
  refine To.step (fun _ => rfl) ?_
  simp only [Zn.l0,Z4 (show n≤9223372036854775806 by omega)]
  refine To.ite (fun hlt => ?_) (fun _ => To.now ⟨hg,hc⟩)
  refine To.bind (spec_l01Below_to hl y hc 2) (fun t3 p3 => To.bind (spec_l05Right_to hl _ p3.2.2 _) (fun t4 p4 => To.bind (spec_l01Once_to hl _ p4.2.2 6) (fun t5 p5 => To.ite (fun _ => ?_) (fun _ => ?_))))
  ·refine To.bind (spec_l01Long_to 40 _ (by omega) (by omega)) (fun t6 _ => To.pos (by have:=p4.2.1.1;omega) ?_)
   exact goOn _ t4.1 _ t5.2.1 t5.2.2.1 t5.2.2.2 (by have:=p4.2.1.1;simp;omega) (by omega) (by omega) p5
  ·exact goOn _ t4.1 _ t5.2.1 t5.2.2.1 t5.2.2.2 (by have:=p4.2.1.1;omega) (by omega) (by omega) p5
theorem spec_l09Grown_to {rb:RBf} (hrb:∀ c,c.size≤9000→RB c (rb c)) {rm:RMf} (hrm:∀ s,s.size≤1000000→RM s (rm s)) {l:List Int} (hl:l.length≤140737488351232) {s:List Int} {i:Int} (y:Int) (h:Cu l s i) (N:Int) (hN:N≤1000):To (fun k => Zn.f k s i y N) (Grown rb rm l):=by
 unfold Zn.f
 refine To.bind (spec_l07Conf_to hl y h) (fun t0 p0 => ?_)
 obtain ⟨f1,f2⟩:=format_clean rb hrm p0.1
 have hc4:t0.1.length≤4:=by
  have h:=p0.1
  rw [confOk,Bool.and_eq_true] at h
  have:=Zu.1 h.1;omega
 refine To.bind (P:=fun z => z = formatShelf t0.1) (To.ev (spec_FormatShelf_ev t0.1 (by omega)) rfl) (fun t1 e1 => ?_)
 subst e1
 have hg:Gd rb rm (formatShelf t0.1).1 [0] 1 0 0 t0.1 [] 0:=f2
 have hs:=hg.small hrm
 refine To.bind (P:=fun z => z = ZU rb rm (formatShelf t0.1).1) (To.ev (spec_OpenShelf_ev rb hrb rm hrm _ (by omega)) rfl) (fun t2 e2 => ?_)
 subst e2
 rw [f2]
 exact spec_l09Grown_loop hrb hrm hl N hN N.toNat 0 0 _ _ _ _ _ _ _ _ _ _ _ (by omega) (by omega) hg p0.2
def Drawn (rb:RBf) (rm:RMf) (r:List S122×List Int×Int×Int×Int×List Int×List S145×Int×Int×List S162):Prop:=Gd rb rm r.1 r.2.1 r.2.2.1 r.2.2.2.1 r.2.2.2.2.1 r.2.2.2.2.2.1 r.2.2.2.2.2.2.1 r.2.2.2.2.2.2.2.1∧drawnC 8 r.2.2.2.2.2.2.2.2.2∧r.2.2.2.2.2.2.2.1 < r.2.2.2.2.2.2.2.2.1
theorem Gd.stamp {rb:RBf} (hrb:∀ c,c.size≤9000→RB c (rb c)) {rm:RMf} (hrm:∀ s,s.size≤1000000→RM s (rm s)) {d:List S122} {s0:List Int} {a b c:Int} {s4:List Int} {dir:List S145} {st:Int} (h:Gd rb rm d s0 a b c s4 dir st):0≤st∧st≤100000:=by
 obtain ⟨-,g2,-,-,-,-,-,-,-,-,-⟩:=clean_parts hrm h
 have hb:=(Z0b g2).2.2.1
 have h':ZU rb rm d = (s0,a,b,c,s4,dir,st,[],0):=h
 have hl:=shelf_lies hrb hrm (d:=d) (by rw [h'])
 rw [h'] at hl
 dsimp only at hl
 omega
theorem spec_l09Size_le (l:List Int) (hl:l.length≤1048576):∃ r,spec_l09Size.f l = some r∧3≤r∧r≤18:=by
 unfold spec_l09Size.f
 rw [Z9 (n:=(l.length:Int) / 20) (by omega) (by omega),Z9 (n:=3 + (l.length:Int) / 20) (by omega) (by omega)]
 split
 ·exact ⟨_,rfl,by omega,by omega⟩
 ·exact ⟨_,rfl,by omega,by omega⟩
theorem spec_DrawRightShelf_to {rb:RBf} (hrb:∀ c,c.size≤9000→RB c (rb c)) {rm:RMf} (hrm:∀ s,s.size≤1000000→RM s (rm s)) (l:List Int) (hl:l.length≤1048576):To (fun k => spec_DrawRightShelf.f k l) (Drawn rb rm):=by
 have hl':l.length≤140737488351232:=by omega
 unfold spec_DrawRightShelf.f
 obtain ⟨sz,hsz,hle⟩:=spec_l09Size_le l hl
 refine To.bind (spec_l01New_to l hl') (fun t0 p0 => To.call (P:=fun r => 3≤r∧r≤18) ⟨sz,hsz,hle⟩ (fun t1 p1 => To.bind (spec_l01Below_to hl' _ p0 t1) (fun t2 p2 => ?_)))
 have hN:t2.1≤1000:=by have:=p2.2.1 (by omega);omega
 refine To.bind (spec_l09Grown_to hrb hrm hl' _ p2.2.2 t2.1 hN) (fun t3 p3 => To.bind (spec_l01Below_to hl' _ p3.2 3) (fun t4 p4 => To.bind (spec_l05Right_to hl' _ p4.2.2 _) (fun t5 p5 => To.now ⟨p3.1,p5.2.1,?_⟩)))
 have hst:=p3.1.stamp hrb hrm
 have h4:=p4.2.1 (by omega)
 have h0:=p4.1
 have h5:=p5.1
 dsimp only
 rw [h5,Z9 (n:=t3.2.2.2.2.2.2.2.1 + 1) (by omega) (by omega),Z9 (by omega) (by omega)]
 omega
theorem laws_sameMap_refl (l:List S147) (hl:l.length≤1048576):Ev (fun k => Z17.f k l l) true:=by
 have loop:∀ (rest:List S147) (n:Nat),l.drop n = rest→Ev (fun k => Z17.l0 k l l (n:Int)) true:=by
  intro rest
  induction rest with
  | nil =>
   intro n h
   have:=ZA h
   refine Ev.step (fun _ => rfl) ?_
   simp only [Z17.l0]
   exact Ev.neg (by omega) (Ev.now _)
  | cons x t ih =>
   intro n h
   obtain ⟨h1,-,h3⟩:=Zg h
   refine Ev.step (fun _ => rfl) ?_
   simp only [Z17.l0,Z4 (show n≤9223372036854775806 by omega)]
   exact Ev.pos (by omega) (Ev.pos (by omega) (Ev.pos (by omega) (Ev.neg (by simp) (ih (n + 1) h3))))
 unfold Z17.f
 exact Ev.pos rfl (loop l 0 rfl)
theorem laws_sameSpots_refl (l:List S145) (hl:l.length≤1048576):Ev (fun k => Z0y.f k l l) true:=by
 have loop:∀ (rest:List S145) (n:Nat),l.drop n = rest→Ev (fun k => Z0y.l0 k l l (n:Int)) true:=by
  intro rest
  induction rest with
  | nil =>
   intro n h
   have:=ZA h
   refine Ev.step (fun _ => rfl) ?_
   simp only [Z0y.l0]
   exact Ev.neg (by omega) (Ev.now _)
  | cons x t ih =>
   intro n h
   obtain ⟨h1,-,h3⟩:=Zg h
   refine Ev.step (fun _ => rfl) ?_
   simp only [Z0y.l0,Z4 (show n≤9223372036854775806 by omega)]
   exact Ev.pos (by omega) (Ev.pos (by omega) (Ev.pos (by omega) (Ev.neg (by simp) (ih (n + 1) h3))))
 unfold Z0y.f
 exact Ev.pos rfl (loop l 0 rfl)
theorem laws_sameMan_refl (s0:List Int) (a b c:Int) (s4:List Int) (h0:s0.length≤1000) (h4:s4.length≤1000):Ev (fun k => laws_sameMan.f k s0 a b c s4 s0 a b c s4) true:=by
 unfold laws_sameMan.f
 exact Ev.bind (laws_sameInts_refl s0 (by omega)) (Ev.pos rfl (Ev.pos rfl (Ev.pos rfl (Ev.pos rfl (Ev.bind (laws_sameInts_refl s4 (by omega)) (Ev.now _))))))
theorem Gd.open {rb:RBf} {rm:RMf} {d:List S122} {s0:List Int} {a b c:Int} {s4:List Int} {dir:List S145} {st:Int} (h:Gd rb rm d s0 a b c s4 dir st):openIs rb rm d s0 a b c s4 dir st = true:=openIs_of h
theorem FnShelves_q (l:List Int) (q:l.length * 1≤140737488351232∧∀ x∈l,(Lit.int .u8 x).wf = true):∃ k,laws_FnShelves.f k l = some true:=by
 apply Ev.rounds
 unfold laws_FnShelves.f
 refine Ev.call (a:=decide ((l.length:Int) > 1048576)) rfl (Ev.ite (fun _ => Ev.now _) (fun hn => ?_))
 have hl:l.length≤1048576:=by have:=of_decide_eq_false (Bool.eq_false_iff.2 hn);omega
 obtain ⟨rb,hrb⟩:=rb_all
 obtain ⟨rm,hrm⟩:=rm_all
 obtain ⟨r,hr,hg,hch,hst⟩:=spec_DrawRightShelf_to hrb hrm l hl
 obtain ⟨d,s0,a,b,c,s4,dir,st,bs,bl⟩:=r
 dsimp only at hg hch hst
 obtain ⟨w1,w2,w3,w4⟩:=hg.small hrm
 have hb8:=hch.1
 have hmap:=openIs_map hrb hrm hg.open
 have hsm:=impl_ShelfMap_ev d (by omega) s0 a b c s4 dir st (by omega)
 rw [hmap.1] at hsm
 have hia:=impl_AddBatch_ev rb hrb rm hrm d (by omega) s0 a b c s4 dir st bs bl (by omega)
 have hsa:=spec_AddBatch_ev rb hrb rm hrm d (by omega) s0 a b c s4 dir st bs bl (by omega) (by omega) (by omega) (by omega)
 refine Ev.bind hr (Ev.bind hsm (Ev.bind hia (Ev.bind hsa (Ev.pos rfl (Ev.neg (by simp) (Ev.ite (fun hk => ?_) (fun hk => Ev.done ?_)))))))
 ·obtain ⟨n1,n2,n3,n4⟩:=add_next rb rm d s0 a b c s4 dir st bs bl hk
  have hadd:(Z7 bs bl).2 = true∧addOf rb rm d s0 a b c s4 dir st bs bl = afterOf rb rm d (Z0G d s0 a b c s4 (frame (Z7 bs bl).1).1):=by
   unfold addOf at hk ⊢
   split at hk
   ·rename_i hc;rw [if_pos hc];exact ⟨hc.1,rfl⟩
   ·cases hk
  obtain ⟨ht,hao⟩:=hadd
  have hraws:(addOf rb rm d s0 a b c s4 dir st bs bl).2.2.2.2.2.2.2.1 = Z0G d s0 a b c s4 (frame (Z7 bs bl).1).1:=(after_eq hao.symm hk).2.1
  generalize addOf rb rm d s0 a b c s4 dir st bs bl = R at hk n1 n2 n3 n4 hraws
  obtain ⟨t0,t1,t2,t3,t4,dir',st',raws,ok⟩:=R
  dsimp only at hk n1 n2 n3 n4 hraws
  subst hraws
  obtain ⟨m1,m2,m3⟩:=add_map hrb hrm hg ht n3 n4
  have hg':Gd rb rm (Z0m d (Z0G d s0 a b c s4 (frame (Z7 bs bl).1).1)).1 t0 t1 t2 t3 t4 dir' st':=n4
  obtain ⟨x1,x2,x3,x4⟩:=hg'.small hrm
  have hmap':=openIs_map hrb hrm hg'.open
  have hsm':=impl_ShelfMap_ev (Z0m d (Z0G d s0 a b c s4 (frame (Z7 bs bl).1).1)).1 (by omega) t0 t1 t2 t3 t4 dir' st' (by omega)
  rw [hmap'.1] at hsm'
  have ho:=impl_OpenShelf_ev rb hrb rm hrm (Z0m d (Z0G d s0 a b c s4 (frame (Z7 bs bl).1).1)).1 (by omega)
  rw [n4] at ho
  have hbst:st' = bs:=by rw [m1];unfold mx;rw [if_pos (by omega)]
  refine Ev.bind (spec_PutRaws_ev d (by omega) (Z0G d s0 a b c s4 (frame (Z7 bs bl).1).1) (by omega) n2) (Ev.bind ho (Ev.bind hsm' (Ev.bind m3 (Ev.pos n3 (Ev.pos rfl (Ev.pos rfl (Ev.pos rfl (Ev.pos rfl (Ev.bind (laws_sameMap_refl _ (by rw [List.length_map];omega)) (Ev.pos rfl (Ev.pos hbst (Ev.bind (laws_sameSpots_refl dir' (by omega)) (Ev.pos rfl (Ev.bind (laws_sameMan_refl t0 t1 t2 t3 t4 (by omega) (by omega)) (Ev.now _)))))))))))))))
 ·have:(addOf rb rm d s0 a b c s4 dir st bs bl).2.2.2.2.2.2.2.1 = []:=by
   unfold addOf afterOf at hk ⊢
   split
   ·rename_i hc
    rw [if_pos hc] at hk
    split
    ·rename_i hc2;rw [if_pos hc2] at hk;exact absurd rfl hk
    ·rfl
   ·rfl
  rw [this];rfl
end Go.Ep
