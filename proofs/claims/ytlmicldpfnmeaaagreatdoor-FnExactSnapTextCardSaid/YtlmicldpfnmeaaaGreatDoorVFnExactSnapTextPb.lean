/- The pure statement of the law: its plain function answers true. No conditions but those that each statement names. By this repo's programs; comments are taken out. -/
import Derived.Test.YtlmicldpfnmeaaaGreatDoorVFnExactSnapTextP
set_option linter.all false
namespace Go.Ep
open Go.RowKit Go.Proofs.YtlmicldpfnmeaaaGreatDoorW.PrintWords Go.Proofs.YtlmicldpfnmeaaaGreatDoorW.PrintLast Go.Proofs.YtlmicldpfnmeaaaGreatDoorW.PrintMore Go.Ev
def vl (l:List Int):List Int:=l.flatMap fun n => varL n.toNat
theorem vl_cons (x:Int) (l:List Int):vl (x::l) = varL x.toNat++vl l:=rfl
theorem curNum_fwdI {s:ByteArray} {a b x:Int} (h:At s a (varL x.toNat) b) (h0:0≤x) (h1:x≤1000000000):curNum s a false = (x,s,b,false):=by
 rw [curNum_fwd h (by omega),Int.toNat_of_nonneg h0]
abbrev Man:=List Int×Int×Int×Int×List Int×Bool
def noMan:Man:=([],0,0,0,[],false)
def MDec (x0:ByteArray) (r:Man):Prop:=r = noMan∨∃ segs nx ba bt cf,r = (segs,nx,ba,bt,cf,true)∧manText segs nx ba bt cf = (x0,true)
theorem man_parts {segs:List Int} {nx ba bt:Int} {cf:List Int} {s:ByteArray} (h:manText segs nx ba bt cf = (s,true)):manOk segs nx ba bt cf = true∧∃ t,unsealT s = (t,true)∧t.size≤20000∧bytesOf t = varL segs.length++(vl segs++(varL nx.toNat++(varL ba.toNat++(varL bt.toNat++(varL cf.length++vl cf))))):=by
 unfold manText at h
 by_cases hk:manOk segs nx ba bt cf = true
 ·rw [if_pos hk] at h
  refine ⟨hk,_,unseal_seal h,(seal_unseal (unseal_seal h)).2,?_⟩
  rw [bytesOf_strOfNums]
  ·simp [manNums,vl]
  ·intro x hx
   obtain ⟨n,-,hn⟩:=List.mem_flatMap.1 hx
   exact varL_bytes _ x hn
 ·rw [if_neg hk] at h;simp at h
theorem man_make {segs:List Int} {nx ba bt:Int} {cf:List Int} {s t:ByteArray} (hk:manOk segs nx ba bt cf = true) (hu:unsealT s = (t,true)) (hb:bytesOf t = varL segs.length++(vl segs++(varL nx.toNat++(varL ba.toNat++(varL bt.toNat++(varL cf.length++vl cf)))))):manText segs nx ba bt cf = (s,true):=by
 unfold manText
 rw [if_pos hk]
 have:strOfNums ((manNums segs nx ba bt cf).flatMap fun n => varL n.toNat) = t:=bytesOf_inj (by
  rw [bytesOf_strOfNums,hb]
  ·simp [manNums,vl]
  ·intro x hx
   obtain ⟨n,-,hn⟩:=List.mem_flatMap.1 hx
   exact varL_bytes _ x hn)
 rw [this]
 exact (seal_unseal hu).1
theorem sman_fin (x0:ByteArray) (segs:List Int) (nx ba bt:Int) (cf:List Int) (hs:segs.length≤1048576) (hc:cf.length≤1048576):To (fun k => (spec_ManifestText.f k segs nx ba bt cf).bind fun t => if t.2 = true then (if t.1.toList = x0.toList then (some (segs,nx,ba,bt,cf,true)) else (some ([],0,0,0,[],false))) else (some ([],0,0,0,[],false))) (MDec x0):=by
 refine To.bind (To.ev (P:=fun z => z = manText segs nx ba bt cf) (spec_ManifestText_ev segs nx ba bt cf (by omega) (by omega)) rfl) (fun z ez => ?_)
 refine To.ite (fun q1 => To.ite (fun q2 => To.now (Or.inr ⟨_,_,_,_,_,rfl,?_⟩)) (fun _ => To.now (Or.inl rfl))) (fun _ => To.now (Or.inl rfl))
 rw [←ez]
 exact Prod.ext (toList_inj.1 q2) q1
theorem sman_l1 (x0 s:ByteArray) (hs:s.size≤1048576) (N:Int) (segs:List Int) (hl:segs.length≤1048576) (nx ba bt:Int):∀ (m n:Nat) (cf:List Int) (a:Int) (b:Bool),5 - n≤m→n≤5→cf.length = n→0≤a→a≤s.size →
  To (fun k => spec_ReadManifest.l1 k x0 N (n:Int) s a b segs nx ba bt cf) (MDec x0):=by
 intro m
 induction m with
 | zero =>
  intro n cf a b h1 h2 h3 h4 h5
  refine To.step (fun _ => rfl) ?_
  simp only [spec_ReadManifest.l1]
  refine To.ite (fun _ => To.ite (fun _ => ?_) (fun _ => To.neg (by omega) (sman_fin x0 segs nx ba bt cf hl (by omega)))) (fun _ => ?_)
  ·exact To.bind (To.ev (P:=fun _ => True) (spec_ManifestText_ev segs nx ba bt cf (by omega) (by omega)) trivial) (fun _ _ => To.now (Or.inl rfl))
  ·cases b
   ·simpa using sman_fin x0 segs nx ba bt cf hl (by omega)
   ·simp only [if_true]
    exact To.bind (To.ev (P:=fun _ => True) (spec_ManifestText_ev segs nx ba bt cf (by omega) (by omega)) trivial) (fun _ _ => To.now (Or.inl rfl))
 | succ m ih =>
  intro n cf a b h1 h2 h3 h4 h5
  refine To.step (fun _ => rfl) ?_
  simp only [spec_ReadManifest.l1]
  refine To.ite (fun _ => To.ite (fun _ => ?_) (fun _ => To.ite (fun hc => ?_) (fun _ => sman_fin x0 segs nx ba bt cf hl (by omega)))) (fun _ => ?_)
  ·exact To.bind (To.ev (P:=fun _ => True) (spec_ManifestText_ev segs nx ba bt cf (by omega) (by omega)) trivial) (fun _ _ => To.now (Or.inl rfl))
  ·refine To.bind (To.ev (P:=fun r => r = curNum s a b) (spec_l05Var_ev s a b (by omega)) rfl) (fun r e => ?_)
   subst e
   have p:=curNum_place (s:=s) (a:=a) (bad:=b) h4 h5
   simp only [curNum_text,wrap64_succ (show n≤9223372036854775806 by omega)]
   exact To.pos (by omega) (ih (n + 1) _ _ _ (by omega) (by omega) (by simp [h3]) p.1 p.2)
  ·cases b
   ·simpa using sman_fin x0 segs nx ba bt cf hl (by omega)
   ·simp only [if_true]
    exact To.bind (To.ev (P:=fun _ => True) (spec_ManifestText_ev segs nx ba bt cf (by omega) (by omega)) trivial) (fun _ _ => To.now (Or.inl rfl))
theorem sman_j1 (x0 s:ByteArray) (hs:s.size≤1048576) (segs:List Int) (hl:segs.length≤1048576) (x1 x2 x3 a:Int) (b:Bool) (h0:0≤a) (h1:a≤s.size):To (fun k => spec_ReadManifest.j1 k x0 s a b segs x1 x2 x3) (MDec x0):=by
 refine To.step (fun _ => rfl) ?_
 simp only [spec_ReadManifest.j1]
 refine To.bind (To.ev (P:=fun r => r.2.1 = s∧0≤r.2.2.1∧r.2.2.1≤(s.size:Int)) (spec_l05Var_ev s a b (by omega)) ⟨curNum_text _ _ _,curNum_place h0 h1⟩) (fun r1 p1 => ?_)
 obtain ⟨n1,s1,a1,b1⟩:=r1
 obtain ⟨e1,p1,p1'⟩:=p1
 dsimp only at e1 p1 p1'
 subst e1
 refine To.bind (To.ev (P:=fun r => r.2.1 = s1∧0≤r.2.2.1∧r.2.2.1≤(s1.size:Int)) (spec_l05Var_ev s1 a1 b1 (by omega)) ⟨curNum_text _ _ _,curNum_place p1 p1'⟩) (fun r2 p2 => ?_)
 obtain ⟨n2,s2,a2,b2⟩:=r2
 obtain ⟨e2,p2,p2'⟩:=p2
 dsimp only at e2 p2 p2'
 subst e2
 refine To.bind (To.ev (P:=fun r => r.2.1 = s2∧0≤r.2.2.1∧r.2.2.1≤(s2.size:Int)) (spec_l05Var_ev s2 a2 b2 (by omega)) ⟨curNum_text _ _ _,curNum_place p2 p2'⟩) (fun r3 p3 => ?_)
 obtain ⟨n3,s3,a3,b3⟩:=r3
 obtain ⟨e3,p3,p3'⟩:=p3
 dsimp only at e3 p3 p3'
 subst e3
 refine To.bind (To.ev (P:=fun r => r.2.1 = s3∧0≤r.2.2.1∧r.2.2.1≤(s3.size:Int)) (spec_l05Var_ev s3 a3 b3 (by omega)) ⟨curNum_text _ _ _,curNum_place p3 p3'⟩) (fun r4 p4 => ?_)
 obtain ⟨n4,s4,a4,b4⟩:=r4
 obtain ⟨e4,p4,p4'⟩:=p4
 dsimp only at e4 p4 p4'
 subst e4
 exact sman_l1 x0 s4 hs n4 segs hl n1 n2 n3 5 0 [] a4 b4 (by omega) (by omega) rfl p4 p4'
theorem sman_l0 (x0 s:ByteArray) (hs:s.size≤1048576) (N x1 x2 x3:Int):∀ (m n:Nat) (segs:List Int) (a:Int) (b:Bool),9 - n≤m→n≤9→segs.length = n→0≤a→a≤s.size →
  To (fun k => spec_ReadManifest.l0 k x0 N (n:Int) s a b segs x1 x2 x3) (MDec x0):=by
 intro m
 induction m with
 | zero =>
  intro n segs a b h1 h2 h3 h4 h5
  refine To.step (fun _ => rfl) ?_
  simp only [spec_ReadManifest.l0]
  exact To.ite (fun _ => To.ite (fun _ => sman_j1 x0 s hs segs (by omega) x1 x2 x3 a b h4 h5) (fun _ => To.neg (by omega) (sman_j1 x0 s hs segs (by omega) x1 x2 x3 a b h4 h5))) (fun _ => sman_j1 x0 s hs segs (by omega) x1 x2 x3 a b h4 h5)
 | succ m ih =>
  intro n segs a b h1 h2 h3 h4 h5
  refine To.step (fun _ => rfl) ?_
  simp only [spec_ReadManifest.l0]
  refine To.ite (fun _ => To.ite (fun _ => sman_j1 x0 s hs segs (by omega) x1 x2 x3 a b h4 h5) (fun _ => To.ite (fun hc => ?_) (fun _ => sman_j1 x0 s hs segs (by omega) x1 x2 x3 a b h4 h5))) (fun _ => sman_j1 x0 s hs segs (by omega) x1 x2 x3 a b h4 h5)
  refine To.bind (To.ev (P:=fun r => r = curNum s a b) (spec_l05Var_ev s a b (by omega)) rfl) (fun r e => ?_)
  subst e
  have p:=curNum_place (s:=s) (a:=a) (bad:=b) h4 h5
  simp only [curNum_text,wrap64_succ (show n≤9223372036854775806 by omega)]
  exact To.pos (by omega) (ih (n + 1) _ _ _ (by omega) (by omega) (by simp [h3]) p.1 p.2)
theorem unseal_small (s:ByteArray):(unsealT s).1.size≤20000:=by
 cases hu:unsealT s with
 | mk t b => cases b with
  | true => exact (seal_unseal hu).2
  | false => unfold unsealT at hu;split at hu <;> simp_all;rw [←hu];exact Nat.zero_le _
theorem spec_ReadManifest_to (s:ByteArray) (hs:s.size≤1048576):To (fun k => spec_ReadManifest.f k s) (MDec s):=by
 unfold spec_ReadManifest.f
 refine To.bind (To.ev (P:=fun r => r = unsealT s) (spec_Unsealed_ev s hs) rfl) (fun r e => ?_)
 subst e
 have hz:=unseal_small s
 refine To.bind (To.ev (P:=fun r => r = _) (spec_l05Var_ev (unsealT s).1 0 (!(unsealT s).2) (by omega)) rfl) (fun r e => ?_)
 subst e
 have p:=curNum_place (s:=(unsealT s).1) (a:=0) (bad:=!(unsealT s).2) (by omega) (by omega)
 simp only [curNum_text]
 exact sman_l0 s _ (by omega) _ 0 0 0 9 0 [] _ _ (by omega) (by omega) rfl p.1 p.2
theorem sman_fwd1 (x0 s:ByteArray) (hs:s.size≤1048576) (segs:List Int) (hl:segs.length≤1048576) (nx ba bt:Int) (conf:List Int) (hcl:conf.length≤4) (hm:∀ x∈conf,0≤x∧x≤1000000) (ht:manText segs nx ba bt conf = (x0,true)):∀ (rest:List Int) (n:Nat) (cf:List Int) (a b:Int),cf++rest = conf→cf.length = n→At s a (vl rest) b →
  Ev (fun k => spec_ReadManifest.l1 k x0 (conf.length:Int) (n:Int) s a false segs nx ba bt cf) (segs,nx,ba,bt,conf,true):=by
 intro rest
 induction rest with
 | nil =>
  intro n cf a b h1 h2 h3
  rw [List.append_nil] at h1
  subst h1
  refine Ev.step (fun _ => rfl) ?_
  simp only [spec_ReadManifest.l1]
  refine Ev.neg (by omega) (Ev.bind (spec_ManifestText_ev segs nx ba bt cf (by omega) (by omega)) ?_)
  rw [ht]
  exact Ev.neg (by simp) (Ev.pos rfl (Ev.pos rfl (Ev.now _)))
 | cons x t ih =>
  intro n cf a b h1 h2 h3
  have hlen:cf.length + (t.length + 1) = conf.length:=by rw [←h1];simp
  have hx:=hm x (by rw [←h1];simp)
  rw [vl_cons] at h3
  obtain ⟨q1,q2⟩:=h3.split
  refine Ev.step (fun _ => rfl) ?_
  simp only [spec_ReadManifest.l1,wrap64_succ (show n≤9223372036854775806 by omega)]
  refine Ev.pos (by omega) (Ev.neg (by simp) (Ev.pos (by omega) (Ev.bind (Ev.eq (spec_l05Var_ev s a false (by omega)) (curNum_fwdI q1 hx.1 (by omega))) (Ev.pos (by omega) ?_))))
  exact ih (n + 1) (cf++[x]) _ b (by rw [←h1,List.append_assoc];rfl) (by simp [h2]) q2
theorem sman_fwd0 (x0 s:ByteArray) (hs:s.size≤1048576) (segs:List Int) (hl:segs.length≤8) (hsm:∀ x∈segs,0≤x∧x≤1000000) (nx ba bt:Int) (h1':0≤nx∧nx≤1000000) (h2':0≤ba∧ba≤1000000) (h3':0≤bt∧bt≤1000000) (conf:List Int) (hcl:conf.length≤4) (hm:∀ x∈conf,0≤x∧x≤1000000) (ht:manText segs nx ba bt conf = (x0,true)) (x1 x2 x3:Int):∀ (rest:List Int) (n:Nat) (sg:List Int) (a b:Int),sg++rest = segs→sg.length = n→At s a (vl rest++(varL nx.toNat++(varL ba.toNat++(varL bt.toNat++(varL conf.length++vl conf))))) b →
  Ev (fun k => spec_ReadManifest.l0 k x0 (segs.length:Int) (n:Int) s a false sg x1 x2 x3) (segs,nx,ba,bt,conf,true):=by
 intro rest
 induction rest with
 | nil =>
  intro n sg a b h1 h2 h3
  rw [List.append_nil] at h1
  subst h1
  obtain ⟨q1,h3⟩:=(show At s a (varL nx.toNat++(varL ba.toNat++(varL bt.toNat++(varL conf.length++vl conf)))) b from h3).split
  obtain ⟨q2,h3⟩:=h3.split
  obtain ⟨q3,h3⟩:=h3.split
  obtain ⟨q4,h3⟩:=h3.split
  refine Ev.step (fun _ => rfl) ?_
  simp only [spec_ReadManifest.l0]
  refine Ev.neg (by omega) (Ev.step (fun _ => rfl) ?_)
  simp only [spec_ReadManifest.j1]
  refine Ev.bind (Ev.eq (spec_l05Var_ev s a false (by omega)) (curNum_fwdI q1 h1'.1 (by omega))) (Ev.bind (Ev.eq (spec_l05Var_ev s _ false (by omega)) (curNum_fwdI q2 h2'.1 (by omega))) (Ev.bind (Ev.eq (spec_l05Var_ev s _ false (by omega)) (curNum_fwdI q3 h3'.1 (by omega))) (Ev.bind (Ev.eq (spec_l05Var_ev s _ false (by omega)) (curNum_fwd q4 (by omega))) ?_)))
  exact sman_fwd1 x0 s hs sg (by omega) nx ba bt conf hcl hm ht conf 0 [] _ b rfl rfl h3
 | cons x t ih =>
  intro n sg a b h1 h2 h3
  have hlen:sg.length + (t.length + 1) = segs.length:=by rw [←h1];simp
  have hx:=hsm x (by rw [←h1];simp)
  rw [vl_cons,List.append_assoc] at h3
  obtain ⟨q1,q2⟩:=h3.split
  refine Ev.step (fun _ => rfl) ?_
  simp only [spec_ReadManifest.l0,wrap64_succ (show n≤9223372036854775806 by omega)]
  refine Ev.pos (by omega) (Ev.neg (by simp) (Ev.pos (by omega) (Ev.bind (Ev.eq (spec_l05Var_ev s a false (by omega)) (curNum_fwdI q1 hx.1 (by omega))) (Ev.pos (by omega) ?_))))
  exact ih (n + 1) (sg++[x]) _ b (by rw [←h1,List.append_assoc];rfl) (by simp [h2]) q2
theorem spec_ReadManifest_good (s:ByteArray) (hs:s.size≤1048576) (segs:List Int) (nx ba bt:Int) (conf:List Int) (h:manText segs nx ba bt conf = (s,true)):Ev (fun k => spec_ReadManifest.f k s) (segs,nx,ba,bt,conf,true):=by
 obtain ⟨hk,t,hu,ht,hb⟩:=man_parts h
 obtain ⟨b1,b2,b3,b4,b5,b6,b7⟩:=manOk_bounds hk
 have hw:=At.whole t
 rw [hb] at hw
 obtain ⟨q1,q2⟩:=hw.split
 unfold spec_ReadManifest.f
 refine Ev.bind (Ev.eq (spec_Unsealed_ev s hs) hu) (Ev.bind (Ev.eq (spec_l05Var_ev t 0 false (by omega)) (curNum_fwd q1 (by omega))) ?_)
 exact sman_fwd0 s t (by omega) segs (by omega) (fun x hx => by have:=b6 x hx;omega) nx ba bt (by omega) (by omega) (by omega) conf (by omega) (fun x hx => by have:=b7 x hx;omega) h 0 0 0 segs 0 [] _ _ rfl rfl q2
theorem eachM1_bad (N i:Int) (s:ByteArray) (a:Int) (l:List Int) (x1 x2 x3:Int) (l4:List Int):To (fun k => each_ReadManifest_c1.l0 k N i s a true l x1 x2 x3 l4) (fun r => r = (s,a,true,l,x1,x2,x3,l4)):=by
 refine To.step (fun _ => rfl) ?_
 simp only [each_ReadManifest_c1.l0]
 exact To.ite (fun _ => To.pos (by simp) (To.now rfl)) (fun _ => To.now rfl)
theorem eachM1_loop (s:ByteArray) (hs:s.size≤1000000) (N x1 x2 x3:Int) (l4:List Int):∀ (m:Nat) (i a:Int) (b:Bool) (acc:List Int),0≤a→a≤s.size→(acc.length:Int)≤a + (if b = true then 1 else 0)→(s.size:Int) - a + (if b = true then 0 else 1)≤m→0≤i→i≤2000000000→N≤1000000000 →
  To (fun k => each_ReadManifest_c1.l0 k N i s a b acc x1 x2 x3 l4) (fun r => r.1 = s∧r.2.2.2.1.length≤1048576∧r.2.2.2.2 = (x1,x2,x3,l4)∧(0≤r.2.1∧r.2.1≤(s.size:Int))∧(r.2.2.1 = false→∃ rest,r.2.2.2.1 = acc++rest∧At s a (vl rest) r.2.1∧(i≤N→i + (rest.length:Int) = N))):=by
 intro m
 induction m with
 | zero =>
  intro i a b acc h0 h1 h2 h3 h4 h5 h6
  obtain rfl:b = true:=by cases b <;> simp_all;omega
  simp only [if_true] at h2
  exact To.mono (eachM1_bad _ _ _ _ _ _ _ _ _) (fun r q => by subst q;exact ⟨rfl,by dsimp only;omega,rfl,⟨h0,h1⟩,fun h => by cases h⟩)
 | succ m ih =>
  intro i a b acc h0 h1 h2 h3 h4 h5 h6
  cases b with
  | true =>
   simp only [if_true] at h2
   exact To.mono (eachM1_bad _ _ _ _ _ _ _ _ _) (fun r q => by subst q;exact ⟨rfl,by dsimp only;omega,rfl,⟨h0,h1⟩,fun h => by cases h⟩)
  | false =>
   simp only [Bool.false_eq_true,if_false] at h2 h3
   refine To.step (fun _ => rfl) ?_
   simp only [each_ReadManifest_c1.l0]
   refine To.ite (fun c => To.neg (by simp) ?_) (fun c => To.now ⟨rfl,by dsimp only;omega,rfl,⟨h0,h1⟩,fun _ => ⟨[],by simp,At.nil h0 h1,fun h => by simp;omega⟩⟩)
   refine To.bind (P:=fun r => r = (acc++[(curNum s a false).1],x1,x2,x3,l4,s,(curNum s a false).2.2.1,(curNum s a false).2.2.2)) ?_ (fun r e => ?_)
   ·unfold impl_ReadManifest_c1.f
    refine To.bind (To.ev (P:=fun r => r = curNum s a false) (impl_reader_num_ev s a false (by omega)) rfl) (fun r e => ?_)
    subst e
    simp only [curNum_text]
    exact To.pos (by omega) (To.now rfl)
   ·subst e
    dsimp only
    rw [wrap64_id (by omega) (by omega)]
    have hp:=curNum_place (s:=s) (a:=a) (bad:=false) h0 h1
    cases hb:(curNum s a false).2.2.2 with
    | true => exact To.mono (eachM1_bad _ _ _ _ _ _ _ _ _) (fun r q => by subst q;exact ⟨rfl,by simp;omega,rfl,hp,fun h => by cases h⟩)
    | false =>
     obtain ⟨-,m1,-⟩:=curNum_good' hb
     have m2:=m1.le
     have m3:=varL_pos (curNum s a false).1.toNat
     refine To.mono (ih (i + 1) _ false _ hp.1 hp.2 (by simp;omega) (by simp;omega) (by omega) (by omega) h6) (fun r q => ⟨q.1,q.2.1,q.2.2.1,q.2.2.2.1,fun h => ?_⟩)
     obtain ⟨rest,e1,e2,e3⟩:=q.2.2.2.2 h
     refine ⟨(curNum s a false).1::rest,by rw [e1];simp,?_,fun _ => ?_⟩
     ·rw [vl_cons];exact m1.trans e2
     ·have:=e3 (by omega);simp;omega
theorem eachM1_fwd (s:ByteArray) (hs:s.size≤1048576) (x1 x2 x3:Int) (l4:List Int):∀ (rest:List Int) (i:Nat) (acc:List Int) (a b:Int),(∀ x∈rest,0≤x∧x≤1000000)→i + rest.length≤60→acc.length = i→At s a (vl rest) b →
  Ev (fun k => each_ReadManifest_c1.l0 k ((i + rest.length:Nat):Int) (i:Int) s a false acc x1 x2 x3 l4) (s,b,false,acc++rest,x1,x2,x3,l4):=by
 intro rest
 induction rest with
 | nil =>
  intro i acc a b h1 h2 h3 h4
  refine Ev.step (fun _ => rfl) ?_
  simp only [each_ReadManifest_c1.l0]
  have:=h4.le
  refine Ev.neg (by simp) (Ev.done ?_)
  simp only [vl,List.flatMap_nil,List.length_nil] at this
  rw [List.append_nil,show a = b by omega]
 | cons x t ih =>
  intro i acc a b h1 h2 h3 h4
  rw [List.length_cons] at h2
  rw [vl_cons] at h4
  obtain ⟨q1,h4⟩:=h4.split
  have hx:=h1 x List.mem_cons_self
  have l1:=q1.le
  refine Ev.step (fun _ => rfl) ?_
  simp only [each_ReadManifest_c1.l0,impl_ReadManifest_c1.f,wrap64_succ (show i≤9223372036854775806 by omega)]
  refine Ev.pos (by simp only [List.length_cons];omega) (Ev.neg (by simp) (Ev.bind (a:=(acc++[x],x1,x2,x3,l4,s,a + ((varL x.toNat).length:Int),false)) ?_ ?_))
  ·exact Ev.bind (Ev.eq (impl_reader_num_ev s a false (by omega)) (curNum_fwdI q1 hx.1 (by omega))) (Ev.pos (by omega) (Ev.now _))
  ·have:=ih (i + 1) (acc++[x]) _ b (fun y hy => h1 y (List.mem_cons_of_mem _ hy)) (by omega) (by simp [h3]) h4
   rw [show i + 1 + t.length = i + (x::t).length by simp;omega] at this
   exact Ev.eq this (by simp)
theorem eachM2_bad (N i:Int) (s:ByteArray) (a:Int) (l:List Int) (x1 x2 x3:Int) (l4:List Int):To (fun k => each_ReadManifest_c2.l0 k N i s a true l4 x1 x2 x3 l) (fun r => r = (s,a,true,x1,x2,x3,l,l4)):=by
 refine To.step (fun _ => rfl) ?_
 simp only [each_ReadManifest_c2.l0]
 exact To.ite (fun _ => To.pos (by simp) (To.now rfl)) (fun _ => To.now rfl)
theorem eachM2_loop (s:ByteArray) (hs:s.size≤1000000) (N x1 x2 x3:Int) (l4:List Int):∀ (m:Nat) (i a:Int) (b:Bool) (acc:List Int),0≤a→a≤s.size→(acc.length:Int)≤a + (if b = true then 1 else 0)→(s.size:Int) - a + (if b = true then 0 else 1)≤m→0≤i→i≤2000000000→N≤1000000000 →
  To (fun k => each_ReadManifest_c2.l0 k N i s a b l4 x1 x2 x3 acc) (fun r => r.1 = s∧r.2.2.2.2.2.2.1.length≤1048576∧(r.2.2.2.1 = x1∧r.2.2.2.2.1 = x2∧r.2.2.2.2.2.1 = x3∧r.2.2.2.2.2.2.2 = l4)∧(0≤r.2.1∧r.2.1≤(s.size:Int))∧(r.2.2.1 = false→∃ rest,r.2.2.2.2.2.2.1 = acc++rest∧At s a (vl rest) r.2.1∧(i≤N→i + (rest.length:Int) = N))):=by
 intro m
 induction m with
 | zero =>
  intro i a b acc h0 h1 h2 h3 h4 h5 h6
  obtain rfl:b = true:=by cases b <;> simp_all;omega
  simp only [if_true] at h2
  exact To.mono (eachM2_bad _ _ _ _ _ _ _ _ _) (fun r q => by subst q;exact ⟨rfl,by dsimp only;omega,⟨rfl,rfl,rfl,rfl⟩,⟨h0,h1⟩,fun h => by cases h⟩)
 | succ m ih =>
  intro i a b acc h0 h1 h2 h3 h4 h5 h6
  cases b with
  | true =>
   simp only [if_true] at h2
   exact To.mono (eachM2_bad _ _ _ _ _ _ _ _ _) (fun r q => by subst q;exact ⟨rfl,by dsimp only;omega,⟨rfl,rfl,rfl,rfl⟩,⟨h0,h1⟩,fun h => by cases h⟩)
  | false =>
   simp only [Bool.false_eq_true,if_false] at h2 h3
   refine To.step (fun _ => rfl) ?_
   simp only [each_ReadManifest_c2.l0]
   refine To.ite (fun c => To.neg (by simp) ?_) (fun c => To.now ⟨rfl,by dsimp only;omega,⟨rfl,rfl,rfl,rfl⟩,⟨h0,h1⟩,fun _ => ⟨[],by simp,At.nil h0 h1,fun h => by simp;omega⟩⟩)
   refine To.bind (P:=fun r => r = (x1,x2,x3,acc++[(curNum s a false).1],l4,s,(curNum s a false).2.2.1,(curNum s a false).2.2.2)) ?_ (fun r e => ?_)
   ·unfold impl_ReadManifest_c2.f
    refine To.bind (To.ev (P:=fun r => r = curNum s a false) (impl_reader_num_ev s a false (by omega)) rfl) (fun r e => ?_)
    subst e
    simp only [curNum_text]
    exact To.pos (by omega) (To.now rfl)
   ·subst e
    dsimp only
    rw [wrap64_id (by omega) (by omega)]
    have hp:=curNum_place (s:=s) (a:=a) (bad:=false) h0 h1
    cases hb:(curNum s a false).2.2.2 with
    | true => exact To.mono (eachM2_bad _ _ _ _ _ _ _ _ _) (fun r q => by subst q;exact ⟨rfl,by simp;omega,⟨rfl,rfl,rfl,rfl⟩,hp,fun h => by cases h⟩)
    | false =>
     obtain ⟨-,m1,-⟩:=curNum_good' hb
     have m2:=m1.le
     have m3:=varL_pos (curNum s a false).1.toNat
     refine To.mono (ih (i + 1) _ false _ hp.1 hp.2 (by simp;omega) (by simp;omega) (by omega) (by omega) h6) (fun r q => ⟨q.1,q.2.1,q.2.2.1,q.2.2.2.1,fun h => ?_⟩)
     obtain ⟨rest,e1,e2,e3⟩:=q.2.2.2.2 h
     refine ⟨(curNum s a false).1::rest,by rw [e1];simp,?_,fun _ => ?_⟩
     ·rw [vl_cons];exact m1.trans e2
     ·have:=e3 (by omega);simp;omega
theorem eachM2_fwd (s:ByteArray) (hs:s.size≤1048576) (x1 x2 x3:Int) (l4:List Int):∀ (rest:List Int) (i:Nat) (acc:List Int) (a b:Int),(∀ x∈rest,0≤x∧x≤1000000)→i + rest.length≤60→acc.length = i→At s a (vl rest) b →
  Ev (fun k => each_ReadManifest_c2.l0 k ((i + rest.length:Nat):Int) (i:Int) s a false l4 x1 x2 x3 acc) (s,b,false,x1,x2,x3,acc++rest,l4):=by
 intro rest
 induction rest with
 | nil =>
  intro i acc a b h1 h2 h3 h4
  refine Ev.step (fun _ => rfl) ?_
  simp only [each_ReadManifest_c2.l0]
  have:=h4.le
  refine Ev.neg (by simp) (Ev.done ?_)
  simp only [vl,List.flatMap_nil,List.length_nil] at this
  rw [List.append_nil,show a = b by omega]
 | cons x t ih =>
  intro i acc a b h1 h2 h3 h4
  rw [List.length_cons] at h2
  rw [vl_cons] at h4
  obtain ⟨q1,h4⟩:=h4.split
  have hx:=h1 x List.mem_cons_self
  have l1:=q1.le
  refine Ev.step (fun _ => rfl) ?_
  simp only [each_ReadManifest_c2.l0,impl_ReadManifest_c2.f,wrap64_succ (show i≤9223372036854775806 by omega)]
  refine Ev.pos (by simp only [List.length_cons];omega) (Ev.neg (by simp) (Ev.bind (a:=(x1,x2,x3,acc++[x],l4,s,a + ((varL x.toNat).length:Int),false)) ?_ ?_))
  ·exact Ev.bind (Ev.eq (impl_reader_num_ev s a false (by omega)) (curNum_fwdI q1 hx.1 (by omega))) (Ev.pos (by omega) (Ev.now _))
  ·have:=ih (i + 1) (acc++[x]) _ b (fun y hy => h1 y (List.mem_cons_of_mem _ hy)) (by omega) (by simp [h3]) h4
   rw [show i + 1 + t.length = i + (x::t).length by simp;omega] at this
   exact Ev.eq this (by simp)
theorem impl_ReadManifest_to (s:ByteArray) (hs:s.size≤1000000):To (fun k => impl_ReadManifest.f k s) (MDec s):=by
 unfold impl_ReadManifest.f
 refine To.bind (To.ev (P:=fun r => r = unsealT s) (impl_Unsealed_ev s (by omega)) rfl) (fun r e => ?_)
 subst e
 refine To.ite (fun hok => ?_) (fun _ => To.now (Or.inl rfl))
 cases hu:unsealT s with
 | mk t b =>
 rw [hu] at hok
 obtain rfl:b = true:=hok
 dsimp only
 have hz:=(seal_unseal hu).2
 refine To.bind (P:=fun r => r.1 = t∧r.2.2.2.1.length≤1048576∧r.2.2.2.2 = (0,0,0,[])∧(0≤r.2.1∧r.2.1≤(t.size:Int))∧(r.2.2.1 = false→At t 0 (varL r.2.2.2.1.length++vl r.2.2.2.1) r.2.1)) ?_ (fun r p => ?_)
 ·unfold each_ReadManifest_c1.f
  refine To.bind (To.ev (P:=fun r => r = curNum t 0 false) (impl_reader_num_ev t 0 false (by omega)) rfl) (fun r e => ?_)
  subst e
  simp only [curNum_text]
  have hp:=curNum_place (s:=t) (a:=0) (bad:=false) (by omega) (by omega)
  have hn:=curNum_nonneg t 0 false
  cases hb:(curNum t 0 false).2.2.2
  ·refine To.mono (eachM1_loop t (by omega) (curNum t 0 false).1 0 0 0 [] (t.size + 1) 0 (curNum t 0 false).2.2.1 false [] hp.1 hp.2 (by simp;omega) (by simp;omega) (by omega) (by omega) hn.2) (fun r q => ⟨q.1,q.2.1,q.2.2.1,q.2.2.2.1,fun h => ?_⟩)
   obtain ⟨rest,e1,e2,e3⟩:=q.2.2.2.2 h
   have e3:=e3 hn.1
   obtain ⟨-,m1,-⟩:=curNum_good' hb
   rw [e1,List.nil_append]
   rw [show rest.length = (curNum t 0 false).1.toNat by omega]
   exact m1.trans e2
  ·exact To.mono (eachM1_bad _ _ _ _ _ _ _ _ _) (fun r q => by subst q;exact ⟨rfl,by simp,rfl,hp,fun h => by cases h⟩)
 obtain ⟨s',a1,b1,segs,y1,y2,y3,y4⟩:=r
 obtain ⟨p1,p2,p3,p4,p5⟩:=p
 dsimp only at p1 p2 p3 p4 p5 ⊢
 subst p1
 obtain ⟨rfl,rfl,rfl,rfl⟩:y1 = 0∧y2 = 0∧y3 = 0∧y4 = []:=by simpa using p3
 have num:∀ (a:Int) (b:Bool),0≤a→a≤(s'.size:Int)→To (fun k => impl_reader_num.f k s' a b) (fun r => r.2.1 = s'∧(0≤r.2.2.1∧r.2.2.1≤(s'.size:Int))∧(r.2.2.2 = false→b = false∧At s' a (varL r.1.toNat) r.2.2.1)):=fun a b h0 h1 =>
  To.ev (impl_reader_num_ev s' a b (by omega)) ⟨curNum_text _ _ _,curNum_place h0 h1,fun h => by obtain ⟨q1,q2,-⟩:=curNum_good' h;exact ⟨q1,q2⟩⟩
 refine To.bind (num a1 b1 p4.1 p4.2) (fun r2 q2 => ?_)
 obtain ⟨nx,s2,a2,b2⟩:=r2
 obtain ⟨h2,q2,q2'⟩:=q2
 dsimp only at h2
 subst h2
 refine To.bind (num a2 b2 q2.1 q2.2) (fun r3 q3 => ?_)
 obtain ⟨ba,s3,a3,b3⟩:=r3
 obtain ⟨h3,q3,q3'⟩:=q3
 dsimp only at h3
 subst h3
 refine To.bind (num a3 b3 q3.1 q3.2) (fun r4 q4 => ?_)
 obtain ⟨bt',s4,a4,b4⟩:=r4
 obtain ⟨h4,q4,q4'⟩:=q4
 dsimp only at h4
 subst h4
 dsimp only at q2 q2' q3 q3' q4 q4' ⊢
 refine To.bind (P:=fun r => r.1 = s4∧r.2.2.2.2.2.2.1.length≤1048576∧(r.2.2.2.1 = nx∧r.2.2.2.2.1 = ba∧r.2.2.2.2.2.1 = bt'∧r.2.2.2.2.2.2.2 = segs)∧(0≤r.2.1∧r.2.1≤(s4.size:Int))∧(r.2.2.1 = false→b4 = false∧At s4 a4 (varL r.2.2.2.2.2.2.1.length++vl r.2.2.2.2.2.2.1) r.2.1)) ?_ (fun r p => ?_)
 ·unfold each_ReadManifest_c2.f
  refine To.bind (To.ev (P:=fun r => r = curNum s4 a4 b4) (impl_reader_num_ev s4 a4 b4 (by omega)) rfl) (fun r e => ?_)
  subst e
  simp only [curNum_text]
  have hp:=curNum_place (s:=s4) (a:=a4) (bad:=b4) q4.1 q4.2
  have hn:=curNum_nonneg s4 a4 b4
  cases hb:(curNum s4 a4 b4).2.2.2
  ·refine To.mono (eachM2_loop s4 (by omega) (curNum s4 a4 b4).1 nx ba bt' segs (s4.size + 1) 0 (curNum s4 a4 b4).2.2.1 false [] hp.1 hp.2 (by simp;omega) (by simp;omega) (by omega) (by omega) hn.2) (fun r q => ⟨q.1,q.2.1,q.2.2.1,q.2.2.2.1,fun h => ?_⟩)
   obtain ⟨rest,e1,e2,e3⟩:=q.2.2.2.2 h
   have e3:=e3 hn.1
   obtain ⟨hb4,m1,-⟩:=curNum_good' hb
   refine ⟨hb4,?_⟩
   rw [e1,List.nil_append]
   rw [show rest.length = (curNum s4 a4 b4).1.toNat by omega]
   exact m1.trans e2
  ·exact To.mono (eachM2_bad _ _ _ _ _ _ _ _ _) (fun r q => by subst q;exact ⟨rfl,by simp,⟨rfl,rfl,rfl,rfl⟩,hp,fun h => by cases h⟩)
 obtain ⟨s5,a5,b5,z1,z2,z3,cf,z4⟩:=r
 obtain ⟨p1',p2',p3',p4',p5'⟩:=p
 dsimp only at p1' p2' p3' p4' p5' ⊢
 obtain ⟨rfl,rfl,rfl,rfl⟩:=p3'
 subst p1'
 refine To.call (P:=fun z => z = ((!b5 && a5 == (s5.size:Int)),s5,a5,b5)) ⟨_,impl_reader_done_eq _ _ _,rfl⟩ (fun z hz => ?_)
 subst hz
 refine To.ite (fun hd => To.bind (To.ev (P:=fun z => z = manOk z4 z1 z2 z3 cf) (impl_ManifestOk_ev z4 z1 z2 z3 cf (by omega) (by omega)) rfl) (fun z hz => ?_)) (fun _ => To.now (Or.inl rfl))
 subst hz
 refine To.ite (fun hk => To.now (Or.inr ⟨_,_,_,_,_,rfl,?_⟩)) (fun _ => To.now (Or.inl rfl))
 simp only [Bool.and_eq_true,Bool.not_eq_true',beq_iff_eq] at hd
 obtain ⟨e4,w5⟩:=p5' hd.1
 obtain ⟨e3,w4⟩:=q4' e4
 obtain ⟨e2,w3⟩:=q3' e3
 obtain ⟨e1,w2⟩:=q2' e2
 have w1:=p5 e1
 have hw:=w1.trans (w2.trans (w3.trans (w4.trans w5)))
 rw [hd.2] at hw
 exact man_make hk hu (by rw [hw.all];simp only [List.append_assoc])
theorem impl_ReadManifest_good (s:ByteArray) (hs:s.size≤1048576) (segs:List Int) (nx ba bt:Int) (conf:List Int) (h:manText segs nx ba bt conf = (s,true)):Ev (fun k => impl_ReadManifest.f k s) (segs,nx,ba,bt,conf,true):=by
 obtain ⟨hk,t,hu,ht,hb⟩:=man_parts h
 obtain ⟨b1,b2,b3,b4,b5,b6,b7⟩:=manOk_bounds hk
 have hw:=At.whole t
 rw [hb] at hw
 obtain ⟨q1,hw⟩:=hw.split
 obtain ⟨q2,hw⟩:=hw.split
 obtain ⟨q3,hw⟩:=hw.split
 obtain ⟨q4,hw⟩:=hw.split
 obtain ⟨q5,hw⟩:=hw.split
 obtain ⟨q6,q7⟩:=hw.split
 unfold impl_ReadManifest.f each_ReadManifest_c1.f each_ReadManifest_c2.f
 refine Ev.bind (Ev.eq (impl_Unsealed_ev s hs) hu) (Ev.pos rfl (Ev.bind (a:=(t,_,false,segs,0,0,0,[])) ?_ (Ev.bind (Ev.eq (impl_reader_num_ev t _ false (by omega)) (curNum_fwdI q3 b2.1 (by omega))) (Ev.bind (Ev.eq (impl_reader_num_ev t _ false (by omega)) (curNum_fwdI q4 b3.1 (by omega))) (Ev.bind (Ev.eq (impl_reader_num_ev t _ false (by omega)) (curNum_fwdI q5 b4.1 (by omega))) (Ev.bind (a:=(t,(t.size:Int),false,nx,ba,bt,conf,segs)) ?_ ?_))))))
 ·refine Ev.bind (Ev.eq (impl_reader_num_ev t 0 false (by omega)) (curNum_fwd q1 (by omega))) ?_
  have:=eachM1_fwd t (by omega) 0 0 0 [] segs 0 [] _ _ (fun x hx => by have:=b6 x hx;omega) (by omega) rfl q2
  rw [Nat.zero_add] at this
  exact this
 ·refine Ev.bind (Ev.eq (impl_reader_num_ev t _ false (by omega)) (curNum_fwd q6 (by omega))) ?_
  have:=eachM2_fwd t (by omega) nx ba bt segs conf 0 [] _ _ (fun x hx => by have:=b7 x hx;omega) (by omega) rfl q7
  rw [Nat.zero_add] at this
  exact this
 ·refine Ev.call (impl_reader_done_eq _ _ _) (Ev.pos (by simp) (Ev.bind (Ev.eq (impl_ManifestOk_ev segs nx ba bt conf (by omega) (by omega)) hk) (Ev.pos rfl (Ev.now _))))
def RM (s:ByteArray) (r:Man):Prop:=Ev (fun k => spec_ReadManifest.f k s) r∧Ev (fun k => impl_ReadManifest.f k s) r∧MDec s r
theorem readManifest_both (s:ByteArray) (hs:s.size≤1000000):∃ r,RM s r:=by
 by_cases hex:∃ segs nx ba bt cf,manText segs nx ba bt cf = (s,true)
 ·obtain ⟨segs,nx,ba,bt,cf,h⟩:=hex
  exact ⟨_,spec_ReadManifest_good s (by omega) _ _ _ _ _ h,impl_ReadManifest_good s (by omega) _ _ _ _ _ h,Or.inr ⟨_,_,_,_,_,rfl,h⟩⟩
 ·obtain ⟨r,hr,p⟩:=spec_ReadManifest_to s (by omega)
  obtain ⟨r',hr',p'⟩:=impl_ReadManifest_to s hs
  rcases p with rfl | ⟨_,_,_,_,_,-,h⟩
  ·rcases p' with rfl | ⟨_,_,_,_,_,-,h⟩
   ·exact ⟨_,hr,hr',Or.inl rfl⟩
   ·exact absurd ⟨_,_,_,_,_,h⟩ hex
  ·exact absurd ⟨_,_,_,_,_,h⟩ hex
def mul10 (a:Nat) (x:Int):Nat:=10 * a + (x.toNat - 48)
def fold10 (a:Nat) (l:List Int):Nat:=l.foldl mul10 a
theorem fold10_nil (a:Nat):fold10 a [] = a:=rfl
theorem fold10_cons (a:Nat) (x:Int) (t:List Int):fold10 a (x::t) = fold10 (mul10 a x) t:=by unfold fold10;rw [List.foldl_cons]
theorem fold10_snoc (l:List Int) (a:Nat) (x:Int):fold10 a (l++[x]) = mul10 (fold10 a l) x:=by unfold fold10;rw [List.foldl_append];rfl
theorem mul10_dig (a d:Nat):mul10 a ((48 + d:Nat):Int) = 10 * a + d:=by unfold mul10;rw [Int.toNat_natCast];omega
theorem digT_bytes_big {n:Nat} (h:¬ n < 10):bytesOf (digT n) = bytesOf (digT (n / 10))++[((48 + n % 10:Nat):Int)]:=by
 have:=digT_big h ByteArray.empty
 rw [ByteArray.append_empty,ByteArray.append_empty] at this
 rw [this,bytesOf_append,bytesOf_strOfNums _ (by intro x hx;simp at hx;omega)]
theorem digT_bytes_small {n:Nat} (h:n < 10):bytesOf (digT n) = [((48 + n:Nat):Int)]:=by
 rw [digT_small h,bytesOf_strOfNums _ (by intro x hx;simp at hx;omega),Nat.mod_eq_of_lt h]
theorem digT_fold (n:Nat):fold10 0 (bytesOf (digT n)) = n:=by
 induction n using Nat.strongRecOn with
 | ind n ih =>
  by_cases h:n < 10
  ·rw [digT_bytes_small h,fold10_cons,fold10_nil,mul10_dig];omega
  ·rw [digT_bytes_big h,fold10_snoc,ih _ (by omega),mul10_dig];omega
theorem digT_digits (n:Nat):∀ x∈bytesOf (digT n),48≤x∧x≤57:=by
 induction n using Nat.strongRecOn with
 | ind n ih =>
  intro x hx
  by_cases h:n < 10
  ·rw [digT_bytes_small h] at hx;simp at hx;omega
  ·rw [digT_bytes_big h] at hx
   rcases List.mem_append.1 hx with hx | hx
   ·exact ih _ (by omega) x hx
   ·simp at hx;omega
theorem digT_size3 {n:Nat} (h:n≤999):1≤(digT n).size∧(digT n).size≤3:=by
 rw [←bytesOf_length]
 by_cases h1:n < 10
 ·rw [digT_bytes_small h1];simp
 by_cases h2:n / 10 < 10
 ·rw [digT_bytes_big h1,digT_bytes_small h2];simp
 ·rw [digT_bytes_big h1,digT_bytes_big h2,digT_bytes_small (by omega)];simp
theorem digT_inj {a b:Nat} (h:digT a = digT b):a = b:=by rw [←digT_fold a,h,digT_fold]
theorem pow10_le {i:Nat} (h:i≤10):10 ^ i≤10000000000:=Nat.pow_le_pow_right (n:=10) (by omega) h
theorem spec_ReadDecimal_step (s:ByteArray) (hs:s.size≤10) {n:Nat} {x:Int} {t:List Int} (h:(bytesOf s).drop n = x::t) {a:Nat} (ha:a < 10 ^ n) (hx:48≤x∧x≤57) {r:Int×Bool} (hr:Ev (fun k => spec_ReadDecimal.l0 k s ((mul10 a x:Nat):Int) ((n + 1:Nat):Int)) r):Ev (fun k => spec_ReadDecimal.l0 k s (a:Int) (n:Int)) r:=by
 obtain ⟨h1,h2,h3,-⟩:=bytesOf_drop_lt h
 have:=pow10_le (show n≤10 by omega)
 refine Ev.step (fun _ => rfl) ?_
 simp only [spec_ReadDecimal.l0,h2,wrap64_succ (show n≤9223372036854775806 by omega)]
 rw [wrap64_id (n:=10 * (a:Int)) (by omega) (by omega),wrap64_id (n:=x) (by omega) (by omega),wrap64_id (n:=10 * (a:Int) + x) (by omega) (by omega),wrap64_id (n:=10 * (a:Int) + x - 48) (by omega) (by omega)]
 refine Ev.pos (by omega) (Ev.pos (by omega) (Ev.neg (by omega) (Ev.neg (by omega) ?_)))
 rw [show 10 * (a:Int) + x - 48 = ((mul10 a x:Nat):Int) by unfold mul10;omega]
 exact hr
theorem spec_ReadDecimal_loop (s:ByteArray) (hs:s.size≤10):∀ (rest:List Int) (n a:Nat),(bytesOf s).drop n = rest→a < 10 ^ n→n≤10→To (fun k => spec_ReadDecimal.l0 k s (a:Int) (n:Int)) (fun _ => True):=by
 intro rest
 induction rest with
 | nil =>
  intro n a h ha hn
  have:=bytesOf_drop_nil h
  have:=pow10_le hn
  refine To.step (fun _ => rfl) ?_
  simp only [spec_ReadDecimal.l0]
  refine To.neg (by omega) (To.ite (fun _ => To.now trivial) (fun hc => To.bind (To.ev (P:=fun _ => True) (spec_Decimal_nat a (by omega)) trivial) (fun z _ => To.ite (fun _ => To.now trivial) (fun _ => To.now trivial))))
 | cons x t ih =>
  intro n a h ha hn
  obtain ⟨h1,h2,h3,h4⟩:=bytesOf_drop_lt h
  have hp:=pow10_le hn
  by_cases hx:48≤x∧x≤57
  ·obtain ⟨r,hr,p⟩:=ih (n + 1) (mul10 a x) h3 (by rw [Nat.pow_succ];unfold mul10;omega) (by omega)
   exact To.ev (spec_ReadDecimal_step s hs h ha hx hr) trivial
  ·refine To.step (fun _ => rfl) ?_
   simp only [spec_ReadDecimal.l0,h2]
   refine To.pos (by omega) (To.pos (by omega) (To.ite (fun _ => To.now trivial) (fun _ => To.pos (by omega) (To.now trivial))))
theorem spec_ReadDecimal_to (s:ByteArray):To (fun k => spec_ReadDecimal.f k s) (fun _ => True):=by
 unfold spec_ReadDecimal.f
 exact To.ite (fun _ => To.now trivial) (fun hc => spec_ReadDecimal_loop s (by omega) _ 0 0 rfl (by simp) (by omega))
theorem spec_ReadDecimal_fwd (n:Nat) (hn:n≤999) (s:ByteArray) (hs:s = digT n):∀ (rest:List Int) (i a:Nat),(bytesOf s).drop i = rest→a < 10 ^ i→i≤10→fold10 a rest = n→(∀ x∈rest,48≤x∧x≤57)→Ev (fun k => spec_ReadDecimal.l0 k s (a:Int) (i:Int)) ((n:Int),true):=by
 have h3:=digT_size3 hn
 intro rest
 induction rest with
 | nil =>
  intro i a h ha hi hf hd
  have:=bytesOf_drop_nil h
  rw [fold10_nil] at hf
  subst hf
  refine Ev.step (fun _ => rfl) ?_
  simp only [spec_ReadDecimal.l0]
  refine Ev.neg (by omega) (Ev.neg (by omega) (Ev.bind (spec_Decimal_nat a (by omega)) (Ev.pos (by rw [hs]) (Ev.now _))))
 | cons x t ih =>
  intro i a h ha hi hf hd
  have hx:=hd x List.mem_cons_self
  obtain ⟨h1,h2,h4,-⟩:=bytesOf_drop_lt h
  rw [←hs] at h3
  exact spec_ReadDecimal_step s (by omega) h ha hx (ih (i + 1) _ h4 (by rw [Nat.pow_succ];unfold mul10;omega) (by omega) hf (fun y hy => hd y (List.mem_cons_of_mem _ hy)))
theorem spec_ReadDecimal_good (n:Nat) (hn:n≤999):Ev (fun k => spec_ReadDecimal.f k (digT n)) ((n:Int),true):=by
 have h3:=digT_size3 hn
 unfold spec_ReadDecimal.f
 exact Ev.neg (by omega) (spec_ReadDecimal_fwd n hn _ rfl _ 0 0 rfl (by simp) (by omega) (by rw [List.drop_zero,digT_fold]) (by rw [List.drop_zero];exact digT_digits n))
theorem segT_nat {n:Nat} (h:n≤999):segT (n:Int) = (⟨#[103]⟩:ByteArray)++digT n:=by
 unfold segT
 rw [if_pos (inR_true.2 (by omega)),Int.toNat_natCast]
theorem segT_size {n:Nat} (h:n≤999):(segT (n:Int)).size = 1 + (digT n).size:=by rw [segT_nat h,size_append];rfl
theorem segT_rest {n:Nat} (h:n≤999):(segT (n:Int)).extract 1 (segT (n:Int)).size = digT n:=bytesOf_inj (by
 rw [bytesOf_dropTo,segT_nat h,bytesOf_append]
 rfl)
theorem segT_inj {a b:Nat} (ha:a≤999) (hb:b≤999) (h:segT (a:Int) = segT (b:Int)):a = b:=by
 have h1:=segT_rest ha
 rw [h,segT_rest hb] at h1
 exact (digT_inj h1).symm
theorem segT_out {n:Int} (h:¬ (0≤n∧n≤999)):segT n = ⟨#[]⟩:=by unfold segT;rw [if_neg (fun e => h (inR_true.1 e))]
def segFind (name:ByteArray):Option Nat:=(List.range 1000).find? fun n:Nat => decide (name = segT (n:Int))
theorem segFind_some {name:ByteArray} {n:Nat} (h:segFind name = some n):n≤999∧name = segT (n:Int):=by
 have h1:=List.find?_some (p:=fun n:Nat => decide (name = segT (n:Int))) (l:=List.range 1000) h
 have h2:=List.mem_range.1 (List.mem_of_find?_eq_some (p:=fun n:Nat => decide (name = segT (n:Int))) (l:=List.range 1000) h)
 exact ⟨by omega,of_decide_eq_true h1⟩
theorem segFind_none {name:ByteArray} (h:segFind name = none) (n:Nat) (hn:n≤999):name≠segT (n:Int):=fun e => by
 have:=List.find?_eq_none (p:=fun n:Nat => decide (name = segT (n:Int))) (l:=List.range 1000) |>.1 h n (List.mem_range.2 (by omega))
 exact this (decide_eq_true e)
def segNo (name:ByteArray):Int:=match segFind name with
 | some n => (n:Int)
 | none => -1
theorem segNo_cases (name:ByteArray):(∃ n:Nat,n≤999∧name = segT (n:Int)∧segNo name = n)∨(segNo name = -1∧∀ n:Nat,n≤999→name≠segT (n:Int)):=by
 unfold segNo
 cases hf:segFind name with
 | some m => exact .inl ⟨m,(segFind_some hf).1,(segFind_some hf).2,rfl⟩
 | none => exact .inr ⟨rfl,segFind_none hf⟩
theorem spec_l09Seg_ev (name:ByteArray) (hs:name.size≤1000000):Ev (fun k => spec_l09Seg.f k name) (segNo name):=by
 unfold spec_l09Seg.f
 rcases segNo_cases name with ⟨n,hn,rfl,e⟩ | ⟨e,hno⟩
 ·have h1:=segT_size hn
  have h3:=digT_size3 hn
  rw [e,segT_rest hn]
  refine Ev.neg (by omega) (Ev.pos (by omega) (Ev.bind (spec_ReadDecimal_good n hn) (Ev.pos rfl (Ev.bind (spec_SegName_ev n) (Ev.pos rfl (Ev.now _))))))
 ·rw [e]
  refine Ev.ite (fun _ => Ev.now _) (fun hc => Ev.pos (by omega) ?_)
  obtain ⟨r,hr,-⟩:=spec_ReadDecimal_to (name.extract 1 name.size)
  refine Ev.bind hr (Ev.ite (fun _ => Ev.bind (spec_SegName_ev r.1) (Ev.ite (fun h => ?_) (fun _ => Ev.now _))) (fun _ => Ev.now _))
  exfalso
  have h:=toList_inj.1 h
  by_cases hr1:0≤r.1∧r.1≤999
  ·obtain ⟨m,hm⟩:=Int.eq_ofNat_of_zero_le hr1.1
   rw [hm] at h
   exact hno m (by omega) h.symm
  ·rw [segT_out hr1] at h
   rw [←h] at hc
   exact hc (by decide)
theorem decFrom_snoc (b:UInt8) (d:Nat) (hd:Lib.digitVal b = some d):∀ (l:List UInt8) (acc a:Nat),Lib.decFrom acc l = some a→Lib.decFrom acc (l++[b]) = some (a * 10 + d)
 | [],acc,a,h => by
  simp only [Lib.decFrom,Option.some.injEq] at h
  subst h
  simp [Lib.decFrom,hd]
 | c::t,acc,a,h => by
  simp only [Lib.decFrom,List.cons_append] at h ⊢
  cases hc:Lib.digitVal c with
  | none => rw [hc] at h;cases h
  | some e => rw [hc] at h;exact decFrom_snoc b d hd t _ a h
theorem digitVal_dig {n:Nat} (h:n < 10):Lib.digitVal (UInt8.ofNat (48 + n)) = some n:=by
 unfold Lib.digitVal
 have e:(UInt8.ofNat (48 + n)).toNat = 48 + n:=by rw [UInt8.toNat_ofNat'];omega
 rw [e,if_pos (by omega)]
 congr 1;omega
theorem decFrom_digits (n:Nat):Lib.decFrom 0 (Lib.decDigits n) = some n:=by
 induction n using Nat.strongRecOn with
 | ind n ih =>
  by_cases h:n < 10
  ·rw [digits_small h];simp only [Lib.decFrom,digitVal_dig h,Nat.zero_mul,Nat.zero_add]
  ·rw [digits_big h,decFrom_snoc _ _ (digitVal_dig (by omega)) _ _ _ (ih _ (by omega))]
   congr 1;omega
theorem digits_head (n:Nat):∃ b t,Lib.decDigits n = b::t∧48≤b.toNat∧b.toNat≤57:=by
 induction n using Nat.strongRecOn with
 | ind n ih =>
  by_cases h:n < 10
  ·refine ⟨_,[],digits_small h,?_⟩
   rw [UInt8.toNat_ofNat'];omega
  ·obtain ⟨b,t,e,hb⟩:=ih (n / 10) (by omega)
   exact ⟨b,t++[UInt8.ofNat (48 + n % 10)],by rw [digits_big h,e];rfl,hb⟩
theorem atoi_digits (n:Nat):Lib.atoi (Lib.decDigits n) = some (n:Int):=by
 obtain ⟨b,t,e,h1,h2⟩:=digits_head n
 have hd:=decFrom_digits n
 rw [e] at hd ⊢
 have n1:(b == 45) = false:=by
  rw [beq_eq_false_iff_ne]
  intro e
  subst e
  simp at h1
 have n2:(b == 43) = false:=by
  rw [beq_eq_false_iff_ne]
  intro e
  subst e
  simp at h1
 simp only [Lib.atoi,n1,n2,Bool.false_eq_true,if_false,Lib.decNat,List.isEmpty_cons,hd,Option.map_some]
theorem impl_ReadDecimal_some (s:ByteArray) (hs:s.size≤18):∃ r,impl_ReadDecimal.f s = some r:=by
 unfold impl_ReadDecimal.f strconv_Atoi.f atoiO
 rw [if_pos hs]
 cases h:Lib.atoi s.data.toList with
 | none => exact ⟨_,rfl⟩
 | some n =>
  have hb:=Lib.atoi_bound h (by rw [data_length];omega)
  dsimp only
  rw [Option.bind_some,if_pos rfl]
  unfold impl_Decimal.f
  rw [if_pos (by omega),if_pos (by omega),Option.bind_some]
  split
  ·rw [impl_within_eq,Option.bind_some]
   split
   ·exact ⟨_,rfl⟩
   ·exact ⟨_,rfl⟩
  ·exact ⟨_,rfl⟩
theorem impl_ReadDecimal_good (n:Nat) (hn:n≤999):impl_ReadDecimal.f (digT n) = some ((n:Int),true):=by
 have h3:=digT_size3 hn
 unfold impl_ReadDecimal.f strconv_Atoi.f atoiO
 rw [if_pos (by omega)]
 have:Lib.atoi (digT n).data.toList = some (n:Int):=by
  rw [show (digT n).data.toList = Lib.decDigits n from rfl,atoi_digits]
 rw [this]
 dsimp only
 rw [Option.bind_some,if_pos rfl]
 unfold impl_Decimal.f
 rw [if_pos (by omega),if_pos (by omega),Option.bind_some,itoa_nat,if_pos rfl,impl_within_eq,Option.bind_some,if_pos (inR_true.2 (by omega))]
theorem cutG (name:ByteArray):strings_CutPrefix.f name (⟨#[103]⟩:ByteArray) = some (if name.extract 0 1 = ⟨#[103]⟩ then (name.extract 1 name.size,true) else (name,false)):=by
 have hz:(⟨#[103]⟩:ByteArray).size = 1:=rfl
 unfold strings_CutPrefix.f internal_stringslite_CutPrefix.f internal_stringslite_HasPrefix.f
 by_cases h:name.size≥1
 ·rw [hz,if_pos (by omega),if_pos (by omega),if_pos (by omega),Option.bind_some]
  by_cases e:name.extract 0 1 = ⟨#[103]⟩
  ·rw [if_pos e]
   rw [if_pos (by show ((name.extract 0 1).toList == _) = true;rw [e];simp),if_pos (by omega),if_pos (by omega)]
   rfl
  ·rw [if_neg e]
   rw [if_neg (by show ¬ ((name.extract 0 1).toList == _) = true;rw [beq_iff_eq,toList_inj];exact e)]
   rfl
 ·have hn:name.size = 0:=by omega
  have e:¬ name.extract 0 1 = ⟨#[103]⟩:=by
   intro e
   have:(name.extract 0 1).size = 1:=by rw [e];rfl
   rw [ByteArray.size_extract] at this
   omega
  rw [hz,if_neg (by omega),Option.bind_some,if_neg e]
  rfl
theorem impl_isSegName_eq (name:ByteArray) (hs:name.size≤18):impl_isSegName.f name = some (decide (0≤segNo name)):=by
 unfold impl_isSegName.f
 rw [cutG,Option.bind_some]
 rcases segNo_cases name with ⟨n,hn,rfl,e⟩ | ⟨e,hno⟩
 ·have hx:(segT (n:Int)).extract 0 1 = ⟨#[103]⟩:=bytesOf_inj (by
   rw [bytesOf_extract,segT_nat hn,bytesOf_append];rfl)
  rw [if_pos hx,segT_rest hn]
  dsimp only
  rw [impl_ReadDecimal_good n hn,Option.bind_some,if_pos rfl,if_pos rfl,impl_SegName_eq,Option.bind_some,e]
  simp
 ·rw [e]
  have hd:decide ((0:Int)≤-1) = false:=rfl
  rw [hd]
  split
  ·rename_i hx
   have hz:name.size≥1:=by
    have:(name.extract 0 1).size = 1:=by rw [hx];rfl
    rw [ByteArray.size_extract] at this
    omega
   dsimp only
   obtain ⟨r,hr⟩:=impl_ReadDecimal_some (name.extract 1 name.size) (by rw [ByteArray.size_extract];omega)
   rw [hr,Option.bind_some,if_pos rfl]
   split
   ·rw [impl_SegName_eq,Option.bind_some]
    refine congrArg some ?_
    rw [beq_eq_false_iff_ne]
    intro h
    have h:=toList_inj.1 h
    by_cases hr1:0≤r.1∧r.1≤999
    ·obtain ⟨m,hm⟩:=Int.eq_ofNat_of_zero_le hr1.1
     rw [hm] at h
     exact hno m (by omega) h.symm
    ·rw [segT_out hr1] at h
     rw [←h] at hz
     exact absurd hz (by decide)
   ·rfl
  ·dsimp only
   obtain ⟨r,hr⟩:=impl_ReadDecimal_some name hs
   rw [hr,Option.bind_some,if_neg (by simp)]
theorem spec_FileAt_ev (l:List S122) (hd:diskOk l = true) (key:ByteArray):Ev (fun k => spec_FileAt.f k l key) (textAt key l,stands (nameCmp key) l):=by
 obtain ⟨hl,hu⟩:=diskOk_up hd
 unfold spec_FileAt.f textAt
 refine Ev.bind (spec_l03At_ev l (by omega) hu key) (Ev.bind (spec_DiskOk_ev l (by omega)) ?_)
 rw [hd]
 refine Ev.pos rfl ?_
 unfold placeAt
 cases hs:stands (nameCmp key) l
 ·exact Ev.pos (by simp) (Ev.done (by simp))
 ·obtain ⟨x,hx,-⟩:=stands_at hs
  obtain ⟨h1,-⟩:=List.getElem?_eq_some_iff.1 hx
  rw [if_pos rfl,if_pos rfl]
  exact Ev.neg (by omega) (Ev.pos (by omega) (Ev.pos (by omega) (Ev.now _)))
theorem filesIn_mem:∀ (l:List S122) (p:Option ByteArray),filesIn p l = true→∀ x∈l,(1≤x.f0.size∧x.f0.size≤12)∧x.f1.size≤20000
 | [],_,_,x,hx => by cases hx
 | y::t,p,h,x,hx => by
  simp only [filesIn,Bool.and_eq_true,decide_eq_true_iff] at h
  obtain ⟨h1,h2,-,h4⟩:=h
  rcases List.mem_cons.1 hx with rfl | hx
  ·have:=inR_true.1 h1;omega
  ·exact filesIn_mem t _ h4 x hx
theorem diskOk_mem {l:List S122} (h:diskOk l = true):∀ x∈l,(1≤x.f0.size∧x.f0.size≤12)∧x.f1.size≤20000:=by
 simp only [diskOk,Bool.and_eq_true] at h
 exact filesIn_mem l none h.2
theorem textAt_size {l:List S122} (h:diskOk l = true) (key:ByteArray):(textAt key l).size≤20000:=by
 unfold textAt
 split
 ·rename_i hs
  obtain ⟨x,hx,-⟩:=stands_at hs
  obtain ⟨h1,h2⟩:=List.getElem?_eq_some_iff.1 hx
  rw [rdT122_get h1] at hx
  injection hx with hx
  rw [hx]
  exact (diskOk_mem h x (List.mem_of_getElem? (by rw [List.getElem?_eq_getElem h1,h2]))).2
 ·exact Nat.zero_le _
theorem idxF_loop (s0 s1:ByteArray) (xs:List Int) (hx:xs.length≤1048576):∀ (rest:List Int) (n:Nat),xs.drop n = rest→To (fun k => slices_IndexFunc_int_int.l0 k xs (xs.length:Int) (n:Int) s0 s1) (fun r => r.2 = (s0,s1)∧decide (r.1≥0) = rest.any fun x => decide (segT x = s0)):=by
 intro rest
 induction rest with
 | nil =>
  intro n h
  have:=drop_nil h
  refine To.step (fun _ => rfl) ?_
  simp only [slices_IndexFunc_int_int.l0]
  exact To.neg (by omega) (To.now ⟨rfl,by simp⟩)
 | cons x t ih =>
  intro n h
  obtain ⟨h1,-,h3⟩:=drop_cons h
  refine To.step (fun _ => rfl) ?_
  simp only [slices_IndexFunc_int_int.l0,drop_rd h,wrap64_succ (show n≤9223372036854775806 by omega)]
  refine To.pos (by omega) (To.pos (by omega) (To.pos (by omega) (To.call (P:=fun r => r = ((segT x).toList == s0.toList,s0,s1)) ⟨_,by unfold impl_cleaning_c1.f;rw [impl_SegName_eq];rfl,rfl⟩ (fun r e => ?_))))
  subst e
  dsimp only
  refine To.ite (fun hc => To.now ⟨rfl,?_⟩) (fun hc => To.mono (ih (n + 1) h3) (fun r q => ⟨q.1,by rw [q.2,List.any_cons,decide_eq_false (fun e => hc (by rw [e];simp)),Bool.false_or]⟩))
  rw [List.any_cons,decide_eq_true (toList_inj.1 (by simpa using hc)),Bool.true_or,decide_eq_true (by dsimp only;omega)]
theorem containsF_ev (s0 s1:ByteArray) (xs:List Int) (hx:xs.length≤1048576):Ev (fun k => slices_ContainsFunc_int_int.f k xs s0 s1) (xs.any (fun x => decide (segT x = s0)),s0,s1):=by
 obtain ⟨r,hr,h1,h2⟩:=idxF_loop s0 s1 xs hx xs 0 rfl
 unfold slices_ContainsFunc_int_int.f slices_IndexFunc_int_int.f
 refine Ev.bind hr (Ev.done ?_)
 rw [h2,h1]
def dropB (segs:List Int) (f:S122):Bool:=decide (0≤segNo f.f0) && !segs.contains (segNo f.f0)
def dropRaw (f:S122):S119:=⟨4,f.f0,⟨#[]⟩,⟨#[]⟩⟩
def dropsOf (segs:List Int) (l:List S122):List S119:=(l.filter (dropB segs)).map dropRaw
theorem dropsOf_cons (segs:List Int) (x:S122) (t:List S122):dropsOf segs (x::t) = (if dropB segs x = true then [dropRaw x] else [])++dropsOf segs t:=by
 unfold dropsOf
 rw [List.filter_cons]
 split <;> rfl
theorem any_contains {segs:List Int} (hs:∀ x∈segs,0≤x∧x≤999) {name:ByteArray} (hn:0≤segNo name):(segs.any fun x => decide (segT x = name)) = segs.contains (segNo name):=by
 rcases segNo_cases name with ⟨n,h1,rfl,e⟩ | ⟨e,-⟩
 ·rw [e,Bool.eq_iff_iff,List.any_eq_true,List.contains_iff_mem]
  constructor
  ·rintro ⟨x,hx,hd⟩
   have hb:=hs x hx
   obtain ⟨m,rfl⟩:=Int.eq_ofNat_of_zero_le hb.1
   have:=segT_inj (by omega) h1 (of_decide_eq_true hd)
   rw [←this];exact hx
  ·intro h
   exact ⟨_,h,decide_eq_true rfl⟩
 ·omega
theorem impl_cleaning_loop (l:List S122) (hd:diskOk l = true) (segs:List Int) (hl:segs.length≤8) (hs:∀ x∈segs,0≤x∧x≤999) (x1 x2 x3:Int) (x4:List Int):∀ (rest:List S122) (n:Nat) (acc:List S119),l.drop n = rest→acc.length≤n + 1→Ev (fun k => impl_cleaning.l0 k acc l (l.length:Int) (n:Int) segs x1 x2 x3 x4) (acc++dropsOf segs rest):=by
 have hll:=(diskOk_up hd).1
 intro rest
 induction rest with
 | nil =>
  intro n acc h ha
  have:=drop_nil h
  refine Ev.step (fun _ => rfl) ?_
  simp only [impl_cleaning.l0]
  exact Ev.neg (by omega) (Ev.done (by simp [dropsOf]))
 | cons x t ih =>
  intro n acc h ha
  obtain ⟨h1,-,h3⟩:=drop_cons h
  have hm:=diskOk_mem hd x (List.mem_of_mem_drop (h ▸ List.mem_cons_self))
  refine Ev.step (fun _ => rfl) ?_
  simp only [impl_cleaning.l0,rdT122_drop h,wrap64_succ (show n≤9223372036854775806 by omega)]
  refine Ev.pos (by omega) (Ev.pos (by omega) (Ev.pos (by omega) (Ev.call (impl_isSegName_eq x.f0 (by omega)) (Ev.ite (fun hc => ?_) (fun hc => ?_)))))
  ·have hc:=of_decide_eq_true hc
   refine Ev.bind (containsF_ev x.f0 x.f1 segs (by omega)) ?_
   rw [any_contains hs hc]
   refine Ev.ite (fun hi => Ev.eq (ih (n + 1) acc h3 (by omega)) ?_) (fun hi => Ev.pos (by omega) (Ev.eq (ih (n + 1) _ h3 (by simp;omega)) ?_))
   ·rw [dropsOf_cons,if_neg (by unfold dropB;simp only [Bool.and_eq_true,Bool.not_eq_true'];intro e;dsimp only at hi;rw [hi] at e;exact absurd e.2 (by simp))];simp
   ·rw [dropsOf_cons,if_pos (by unfold dropB;rw [decide_eq_true hc,Bool.true_and];dsimp only at hi;rw [Bool.eq_false_iff.2 hi];rfl)];simp [dropRaw]
  ·refine Ev.eq (ih (n + 1) acc h3 (by omega)) ?_
   rw [dropsOf_cons,if_neg (by unfold dropB;rw [Bool.eq_false_iff.2 hc];simp)];simp
def newDrop (l:List S122):List S119:=if stands (nameCmp ⟨#[109,43]⟩) l = true then [⟨4,⟨#[109,43]⟩,⟨#[]⟩,⟨#[]⟩⟩] else []
theorem impl_cleaning_ev (l:List S122) (hd:diskOk l = true) (segs:List Int) (hl:segs.length≤8) (hs:∀ x∈segs,0≤x∧x≤999) (x1 x2 x3:Int) (x4:List Int):Ev (fun k => impl_cleaning.f k l segs x1 x2 x3 x4) (newDrop l++dropsOf segs l):=by
 unfold impl_cleaning.f newDrop
 refine Ev.bind (impl_FileAt_ev l hd _) ?_
 cases h:stands (nameCmp ⟨#[109,43]⟩) l
 ·exact Ev.neg (by simp) (Ev.eq (impl_cleaning_loop l hd segs hl hs x1 x2 x3 x4 l 0 [] rfl (by simp)) (by simp))
 ·exact Ev.pos rfl (Ev.pos (by omega) (Ev.eq (impl_cleaning_loop l hd segs hl hs x1 x2 x3 x4 l 0 _ rfl (by simp)) (by simp)))
def endOn (rb:ByteArray→Int×List S162×Bool):Int→List ByteArray→Int
 | a,[] => a
 | a,c::t => if (rb c).2.2 = true then endOn rb (a + ((frame c).1.size:Int)) t else a
def goodT (rb:ByteArray→Int×List S162×Bool):List ByteArray→List ByteArray
 | [] => []
 | c::t => if (rb c).2.2 = true then c::goodT rb t else []
def frSum:Int→List ByteArray→Int
 | a,[] => a
 | a,c::t => frSum (a + ((frame c).1.size:Int)) t
theorem endOn_good (rb:ByteArray→Int×List S162×Bool):∀ (l:List ByteArray) (a:Int),endOn rb a l = frSum a (goodT rb l)
 | [],_ => rfl
 | c::t,a => by
  rw [endOn,goodT]
  split
  ·rw [frSum,endOn_good rb t]
  ·rfl
theorem goodT_sub (rb:ByteArray→Int×List S162×Bool):∀ (l:List ByteArray),(goodT rb l).length≤l.length∧∀ c∈goodT rb l,c∈l
 | [] => ⟨Nat.le_refl _,fun c h => h⟩
 | c::t => by
  have ih:=goodT_sub rb t
  rw [goodT]
  split
  ·exact ⟨by simp only [List.length_cons];omega,fun d hd => by rcases List.mem_cons.1 hd with rfl | hd;exact List.mem_cons_self;exact List.mem_cons_of_mem _ (ih.2 d hd)⟩
  ·exact ⟨Nat.zero_le _,fun d hd => by cases hd⟩
theorem scanOn_texts (rb:ByteArray→Int×List S162×Bool) (seg:Int):∀ (l:List ByteArray) (a:Int) (r:List S145×List ByteArray×Int),(scanOn rb seg a l r).2.1 = r.2.1++goodT rb l
 | [],a,r => by simp [scanOn,goodT]
 | c::t,a,r => by
  rw [scanOn,goodT]
  split
  ·rw [scanOn_texts rb seg t];simp
  ·simp
theorem frSum_ge:∀ (l:List ByteArray) (a:Int),a≤frSum a l∧frSum a l≤a + 9009 * (l.length:Int)
 | [],a => by simp [frSum]
 | c::t,a => by
  have:=frame_le8 c
  have:=frSum_ge t (a + ((frame c).1.size:Int))
  rw [frSum,List.length_cons]
  omega
theorem impl_batchesOf_loop2 (rb:ByteArray→Int×List S162×Bool) (hrb:∀ c,c.size≤9000→RB c (rb c)) (list:List ByteArray) (hl:list.length≤20000) (hc:∀ c∈list,c.size≤9000):∀ (rest:List ByteArray) (n:Nat) (a:Int) (acc:List S113),list.drop n = rest→acc.length = n→0≤a→a≤9009 * (n:Int) →
  Ev (fun k => impl_batchesOf.l0 k acc a list (list.length:Int) (n:Int)) (acc++piecesOf rb a rest,endOn rb a rest):=by
 intro rest
 induction rest with
 | nil =>
  intro n a acc h ha h0 h1
  have:=drop_nil h
  refine Ev.step (fun _ => rfl) ?_
  simp only [impl_batchesOf.l0]
  exact Ev.neg (by omega) (Ev.done (by simp [piecesOf,endOn]))
 | cons x r ih =>
  intro n a acc h ha h0 h1
  obtain ⟨h2,-,h3⟩:=drop_cons h
  have hm:=hc x (List.mem_of_mem_drop (h ▸ List.mem_cons_self))
  have hf:=frame_le8 x
  obtain ⟨-,q2,q3⟩:=hrb x hm
  refine Ev.step (fun _ => rfl) ?_
  simp only [impl_batchesOf.l0,rdOf_drop h,wrap64_succ (show n≤9223372036854775806 by omega)]
  refine Ev.pos (by omega) (Ev.pos (by omega) (Ev.pos (by omega) (Ev.bind q2 ?_)))
  rw [piecesOf,endOn]
  refine Ev.ite (fun c => ?_) (fun c => Ev.done (by rw [if_neg c,if_neg c];simp))
  rw [if_pos c,if_pos c]
  refine Ev.bind (impl_Frame_ev x (by omega)) ?_
  rw [wrap64_id (n:=a + ((frame x).1.size:Int)) (by omega) (by omega),wrap64_id (n:=a + ((frame x).1.size:Int) - (x.size:Int)) (by omega) (by omega)]
  refine Ev.pos (by omega) (Ev.eq (ih (n + 1) (a + ((frame x).1.size:Int)) _ h3 (by simp [ha]) (by omega) (by omega)) ?_)
  simp
theorem impl_batchesOf_ev (rb:ByteArray→Int×List S162×Bool) (hrb:∀ c,c.size≤9000→RB c (rb c)) (s:ByteArray):Ev (fun k => impl_batchesOf.f k s) (piecesOf rb 0 (unframe s).1,endOn rb 0 (unframe s).1):=by
 unfold impl_batchesOf.f
 obtain ⟨u1,u2⟩:=unframe_bounds s
 exact Ev.bind (impl_Unframe_evB s) (Ev.eq (impl_batchesOf_loop2 rb hrb _ u1 u2 _ 0 0 [] rfl rfl (by omega) (by omega)) (by simp))
theorem unfStep_six {s:ByteArray} {a b:Int} {c:ByteArray} (h:unfStep s a = some (c,b)):a + 6≤b:=by
 unfold unfStep at h
 split at h
 ·cases h
 split at h
 ·cases h
 split at h
 ·rename_i h1 h2 h3
  simp only [Option.some.injEq,Prod.mk.injEq] at h
  obtain ⟨rfl,rfl⟩:=h
  have hr:readVar s a = ((readVar s a).1,(readVar s a).2.1,true):=by
   have:(readVar s a).2.2 = true:=by cases hb:(readVar s a).2.2 <;> simp_all
   rw [←this]
  obtain ⟨p1,p2,p3,p4,p5,p6,-,-⟩:=readVar_true hr
  have h4:=h3.1
  unfold frame at h4
  split at h4
  ·rename_i h5
   have h5:=inR_true.1 h5
   rw [ByteArray.size_extract] at h5
   omega
  ·simp at h4
 ·cases h
theorem unfr_six (s:ByteArray):∀ (m:Nat) (acc:List ByteArray) (a:Int),6 * (acc.length:Int)≤a→6 * ((unfr s m acc a).1.length:Int)≤(unfr s m acc a).2
 | 0,acc,a,h => h
 | m + 1,acc,a,h => by
  rw [unfr]
  cases hs:unfStep s a with
  | none => exact h
  | some x =>
   obtain ⟨c,b⟩:=x
   have:=unfStep_six hs
   exact unfr_six s m (acc++[c]) b (by simp only [List.length_append,List.length_singleton];omega)
theorem unframe_few (s:ByteArray):(unframe s).1.length≤3334:=by
 unfold unframe
 split
 ·simp
 ·obtain ⟨⟨-,h1⟩,-,-⟩:=unfr_bounds s (s.size + 1) [] 0 (by omega) (by omega) (by simp) (fun c hc => by cases hc)
  have:=unfr_six s (s.size + 1) [] 0 (by simp)
  omega
theorem unfr_acc (s:ByteArray):∀ (m:Nat) (acc:List ByteArray) (a:Int),∃ r,(unfr s m acc a).1 = acc++r
 | 0,acc,a => ⟨[],by rw [unfr,List.append_nil]⟩
 | m + 1,acc,a => by
  rw [unfr]
  cases unfStep s a with
  | none => exact ⟨[],by simp⟩
  | some x =>
   obtain ⟨r,hr⟩:=unfr_acc s m (acc++[x.1]) x.2
   exact ⟨x.1::r,by dsimp only;rw [hr];simp⟩
theorem unframe_head {s c:ByteArray} {t:List ByteArray} (h:(unframe s).1 = c::t):(frame c).2 = true∧s.extract 0 (frame c).1.size = (frame c).1∧(frame c).1.size≤s.size:=by
 unfold unframe at h
 split at h
 ·cases h
 rw [unfr] at h
 cases hs:unfStep s 0 with
 | none => rw [hs] at h;cases h
 | some x =>
  rw [hs] at h
  obtain ⟨c',b⟩:=x
  obtain ⟨r,hr⟩:=unfr_acc s s.size ([]++[c']) b
  dsimp only at h
  rw [hr] at h
  obtain rfl:c' = c:=by simp at h;exact h.1
  obtain ⟨-,-,hb,-⟩:=unfStep_some hs
  unfold unfStep at hs
  split at hs
  ·cases hs
  split at hs
  ·cases hs
  split at hs
  ·rename_i h1 h2 h3
   simp only [Option.some.injEq,Prod.mk.injEq] at hs
   obtain ⟨e1,e2⟩:=hs
   rw [e1] at h3
   rw [e2] at h3
   have e0:(0:Int).toNat = 0:=rfl
   rw [e0] at h3
   have hz:(frame c').1.size = b.toNat:=by rw [h3.2,ByteArray.size_extract];omega
   exact ⟨h3.1,by rw [hz];exact h3.2.symm,by omega⟩
  ·cases hs
abbrev RBf:=ByteArray→Int×List S162×Bool
def segScan (rb:RBf) (d:List S122) (n:Int):List S145×List ByteArray×Int:=scanOn rb n 0 (unframe (textAt (segT n) d)).1 ([],[],-1)
def segEnd (rb:RBf) (d:List S122) (n:Int):Int:=endOn rb 0 (unframe (textAt (segT n) d)).1
theorem segScan_len (rb:RBf) (hrb:∀ c,c.size≤9000→RB c (rb c)) (d:List S122) (n:Int):(segScan rb d n).1.length≤200040∧(segScan rb d n).2.1.length≤3334:=by
 have h:=scanOn_len rb (fun c h => (hrb c h).2.2) n (unframe (textAt (segT n) d)).1 0 ([],[],-1) (unframe_bounds _).2
 have:=unframe_few (textAt (segT n) d)
 unfold segScan
 simp only [List.length_nil,Nat.zero_add] at h
 omega
theorem segEnd_bounds (rb:RBf) (d:List S122) (n:Int):0≤segEnd rb d n∧segEnd rb d n≤1000000000:=by
 unfold segEnd
 rw [endOn_good]
 have:=frSum_ge (goodT rb (unframe (textAt (segT n) d)).1) 0
 have:=(goodT_sub rb (unframe (textAt (segT n) d)).1).1
 have:=unframe_few (textAt (segT n) d)
 omega
def openOn (rb:RBf) (d:List S122):List Int→List S145→Int→Option (List S145×Int)
 | [],sp,st => some (sp,st)
 | n::t,sp,st => if segEnd rb d n < ((textAt (segT n) d).size:Int)∧t≠[] then none else openOn rb d t (sp++(segScan rb d n).1) (mx st (segScan rb d n).2.2)
def endOf (rb:RBf) (d:List S122):List Int→Int→Int
 | [],e => e
 | n::t,_ => endOf rb d t (segEnd rb d n)
abbrev SLoad:=List Int×Int×Int×Int×List Int×List S145×Int×Int×Int
def noLoad (c:Int):SLoad:=([],0,0,0,[],[],0,0,c)
theorem spec_l09Load_l2 (rb:RBf) (d:List S122) (segs:List Int) (m1 m2 m3:Int) (m4 s0:List Int) (s1 s2 s3:Int) (s4:List Int) (dir:List S145) (st:Int) (i:Nat) (hi:i < segs.length) (hsl:segs.length≤8) (text:ByteArray) (sp:List S145) (hsp:sp.length≤200040) (hdir:dir.length≤2000000) (texts:List ByteArray) (htl:texts.length≤20000) (hts:∀ c∈texts,c.size≤9000) (stamp:Int) (r:SLoad):∀ (rest:List ByteArray) (n:Nat) (e:Int),texts.drop n = rest→0≤e→e≤9009 * (n:Int) →
  (if frSum e rest < (text.size:Int)∧i + 1 < segs.length then noLoad 4 = r else Ev (fun k => spec_l09Load.l1 k (frSum e rest) ((i + 1:Nat):Int) d segs m1 m2 m3 m4 s0 s1 s2 s3 s4 (sp.foldl layS dir) (mx st stamp)) r) →
  Ev (fun k => spec_l09Load.l2 k e (i:Int) text sp texts stamp (n:Int) d segs m1 m2 m3 m4 s0 s1 s2 s3 s4 dir st) r:=by
 intro rest
 induction rest with
 | nil =>
  intro n e h h0 h1 hr
  have:=drop_nil h
  rw [frSum] at hr
  have fin:∀ b:Bool,(b = true↔e < (text.size:Int)∧i + 1 < segs.length)→Ev (fun k => spec_l09Load.j4 k e (i:Int) sp stamp b d segs m1 m2 m3 m4 s0 s1 s2 s3 s4 dir st) r:=by
   intro b hb
   refine Ev.step (fun _ => rfl) ?_
   simp only [spec_l09Load.j4]
   refine Ev.ite (fun hc => ?_) (fun hc => ?_)
   ·rw [if_pos (hb.1 hc)] at hr
    exact Ev.done hr
   ·rw [if_neg (fun x => hc (hb.2 x))] at hr
    refine Ev.bind (show Ev (fun k => spec_l08More.f k dir sp) (sp.foldl layS dir) by
     unfold spec_l08More.f
     simp only [Option.bind_some,List.nil_append]
     exact Ev.pos (by simp;omega) (spec_l08More_l0 sp (by omega) sp 0 dir rfl (by omega))) ?_
    rw [wrap64_succ (show i≤9223372036854775806 by omega)]
    unfold mx at hr
    refine Ev.ite (fun h5 => ?_) (fun h5 => ?_)
    ·rw [if_pos (show st < stamp by omega)] at hr;exact hr
    ·rw [if_neg (show ¬ st < stamp by omega)] at hr;exact hr
  refine Ev.step (fun _ => rfl) ?_
  simp only [spec_l09Load.l2,wrap64_succ (show i≤9223372036854775806 by omega)]
  refine Ev.neg (by omega) (Ev.ite (fun hc => fin _ ?_) (fun hc => fin _ ?_))
  ·rw [decide_eq_true_iff];omega
  ·simp;omega
 | cons x t ih =>
  intro n e h h0 h1 hr
  obtain ⟨h2,-,h3⟩:=drop_cons h
  have hm:=hts x (List.mem_of_mem_drop (h ▸ List.mem_cons_self))
  have hf:=frame_le8 x
  rw [frSum] at hr
  refine Ev.step (fun _ => rfl) ?_
  simp only [spec_l09Load.l2,rdOf_drop h,wrap64_succ (show n≤9223372036854775806 by omega)]
  refine Ev.pos (by omega) (Ev.pos (by omega) (Ev.bind (spec_Frame_ev x (by omega)) ?_))
  rw [wrap64_id (by omega) (by omega)]
  exact ih (n + 1) _ h3 (by omega) (by omega) hr
theorem spec_l09Load_l1 (rb:RBf) (hrb:∀ c,c.size≤9000→RB c (rb c)) (d:List S122) (hd:diskOk d = true) (segs:List Int) (hsl:segs.length≤8) (m1 m2 m3:Int) (m4:List Int):∀ (rest:List Int) (n:Nat) (e:Int) (sp:List S145) (st:Int),segs.drop n = rest→n≤segs.length→sp.length≤200040 * n →
  Ev (fun k => spec_l09Load.l1 k e (n:Int) d segs m1 m2 m3 m4 segs m1 m2 m3 m4 (sp.foldl layS []) st) (match openOn rb d rest sp st with
   | none => noLoad 4
   | some (sp',st') => if dirOk (sp'.foldl layS []) = true then (segs,m1,m2,m3,m4,sp'.foldl layS [],st',endOf rb d rest e,0) else noLoad 4):=by
 obtain ⟨hdl,hdu⟩:=diskOk_up hd
 intro rest
 induction rest with
 | nil =>
  intro n e sp st h hn hl
  have:=drop_nil h
  have hll:=lay_len sp []
  simp only [List.length_nil] at hll
  refine Ev.step (fun _ => rfl) ?_
  simp only [spec_l09Load.l1,openOn,endOf]
  refine Ev.neg (by omega) (Ev.bind (spec_DirOk_ev _ (by omega)) ?_)
  exact Ev.ite (fun hc => Ev.done (by rw [if_pos hc])) (fun hc => Ev.done (by rw [if_neg hc];rfl))
 | cons x t ih =>
  intro n e sp st h hn hl
  obtain ⟨h1,-,h3⟩:=drop_cons h
  have hll:=lay_len sp []
  simp only [List.length_nil] at hll
  obtain ⟨l1,l2⟩:=segScan_len rb hrb d x
  have ht:=textAt_size hd (segT x)
  refine Ev.step (fun _ => rfl) ?_
  simp only [spec_l09Load.l1,drop_rd h]
  refine Ev.pos (by omega) (Ev.pos (by omega) (Ev.bind (spec_SegName_ev x) (Ev.bind (spec_l03Text_ev d (by omega) hdu _) (Ev.bind (spec_ScanSeg_ev rb (fun c h => ⟨(hrb c h).1,(hrb c h).2.2⟩) (textAt (segT x) d) x) ?_))))
  have e2:(segScan rb d x).2.1 = goodT rb (unframe (textAt (segT x) d)).1:=by unfold segScan;rw [scanOn_texts];simp
  have e3:frSum 0 (segScan rb d x).2.1 = segEnd rb d x:=by rw [e2,segEnd,endOn_good]
  refine spec_l09Load_l2 rb d segs m1 m2 m3 m4 segs m1 m2 m3 m4 (sp.foldl layS []) st n h1 hsl _ (segScan rb d x).1 (by omega) (by omega) (segScan rb d x).2.1 (by omega) (fun c hc => ?_) (segScan rb d x).2.2 _ (segScan rb d x).2.1 0 0 rfl (by omega) (by omega) ?_
  ·rw [e2] at hc
   exact (unframe_bounds _).2 c ((goodT_sub rb _).2 c hc)
  ·rw [e3,openOn,endOf]
   have hne:t≠[]↔n + 1 < segs.length:=by
    rw [←h3]
    constructor
    ·intro hh
     rcases Nat.lt_or_ge (n + 1) segs.length with h5 | h5
     ·exact h5
     ·exact absurd (List.drop_eq_nil_of_le h5) hh
    ·intro hh he
     have:=drop_nil he;omega
   by_cases hc:segEnd rb d x < ((textAt (segT x) d).size:Int)∧t≠[]
   ·rw [if_pos ⟨hc.1,hne.1 hc.2⟩,if_pos hc]
   ·rw [if_neg (fun h5 => hc ⟨h5.1,hne.2 h5.2⟩),if_neg hc,←List.foldl_append]
    exact ih (n + 1) (segEnd rb d x) (sp++(segScan rb d x).1) _ h3 (by omega) (by rw [List.length_append];omega)
theorem spec_l09Load_l0 (d:List S122) (hd:diskOk d = true) (segs:List Int) (m1 m2 m3:Int) (m4:List Int) (hsl:segs.length≤8) (r:SLoad) (hr:segs.all (fun n => stands (nameCmp (segT n)) d) = true→Ev (fun k => spec_l09Load.l1 k 0 0 d segs m1 m2 m3 m4 segs m1 m2 m3 m4 [] m2) r) (hn:segs.all (fun n => stands (nameCmp (segT n)) d) = false→r = noLoad 3):∀ (rest:List Int) (n:Nat),segs.drop n = rest→segs.all (fun n => stands (nameCmp (segT n)) d) = rest.all (fun n => stands (nameCmp (segT n)) d) →
  Ev (fun k => spec_l09Load.l0 k (n:Int) d segs m1 m2 m3 m4 segs m1 m2 m3 m4 m2) r:=by
 obtain ⟨hdl,hdu⟩:=diskOk_up hd
 intro rest
 induction rest with
 | nil =>
  intro n h ha
  have:=drop_nil h
  refine Ev.step (fun _ => rfl) ?_
  simp only [spec_l09Load.l0]
  exact Ev.neg (by omega) (hr (by rw [ha];rfl))
 | cons x t ih =>
  intro n h ha
  obtain ⟨h1,-,h3⟩:=drop_cons h
  refine Ev.step (fun _ => rfl) ?_
  simp only [spec_l09Load.l0,drop_rd h,wrap64_succ (show n≤9223372036854775806 by omega)]
  refine Ev.pos (by omega) (Ev.pos (by omega) (Ev.bind (spec_SegName_ev x) (Ev.bind (spec_l03At_ev d (by omega) hdu _) ?_)))
  unfold placeAt
  rw [List.all_cons] at ha
  cases hs:stands (nameCmp (segT x)) d
  ·rw [hs,Bool.false_and] at ha
   exact Ev.pos (by simp) (Ev.done (hn ha).symm)
  ·rw [hs,Bool.true_and] at ha
   exact Ev.neg (by simp) (ih (n + 1) h3 ha)
abbrev RMf:=ByteArray→Man
def manAt (rm:RMf) (d:List S122):Man:=rm (textAt ⟨#[109]⟩ d)
def loadOf (rb:RBf) (rm:RMf) (d:List S122):SLoad :=
 if diskOk d = true then
  if (stands (nameCmp ⟨#[109]⟩) d && (manAt rm d).2.2.2.2.2) = true then
   if (manAt rm d).1.all (fun n => stands (nameCmp (segT n)) d) = true then
    match openOn rb d (manAt rm d).1 [] (manAt rm d).2.2.1 with
    | none => noLoad 4
    | some (sp',st') => if dirOk (sp'.foldl layS []) = true then ((manAt rm d).1,(manAt rm d).2.1,(manAt rm d).2.2.1,(manAt rm d).2.2.2.1,(manAt rm d).2.2.2.2.1,sp'.foldl layS [],st',endOf rb d (manAt rm d).1 0,0) else noLoad 4
   else noLoad 3
  else noLoad 2
 else noLoad 1
theorem man_good {rm:RMf} (hrm:∀ s,s.size≤1000000→RM s (rm s)) {d:List S122} (hd:diskOk d = true) (h:(manAt rm d).2.2.2.2.2 = true):manOk (manAt rm d).1 (manAt rm d).2.1 (manAt rm d).2.2.1 (manAt rm d).2.2.2.1 (manAt rm d).2.2.2.2.1 = true:=by
 have ht:=textAt_size hd ⟨#[109]⟩
 obtain ⟨-,-,hm⟩:=hrm (textAt ⟨#[109]⟩ d) (by omega)
 rcases hm with hm | ⟨_,_,_,_,_,hm,hk⟩
 ·unfold manAt at h;rw [hm] at h;cases h
 ·unfold manAt;rw [hm];exact (man_parts hk).1
theorem spec_l09Load_ev (rb:RBf) (hrb:∀ c,c.size≤9000→RB c (rb c)) (rm:RMf) (hrm:∀ s,s.size≤1000000→RM s (rm s)) (d:List S122) (hl:d.length≤1048576):Ev (fun k => spec_l09Load.f k d) (loadOf rb rm d):=by
 unfold spec_l09Load.f loadOf
 refine Ev.bind (spec_DiskOk_ev d hl) ?_
 cases hd:diskOk d
 ·exact Ev.neg (by simp) (Ev.done (by simp [noLoad]))
 have ht:=textAt_size hd ⟨#[109]⟩
 refine Ev.pos rfl (Ev.bind (spec_FileAt_ev d hd _) (Ev.bind (hrm (textAt ⟨#[109]⟩ d) (by omega)).1 ?_))
 rw [if_pos rfl]
 change Ev (fun k => if stands (nameCmp ⟨#[109]⟩) d = true then spec_l09Load.j0 k (!(manAt rm d).2.2.2.2.2) d (manAt rm d).1 (manAt rm d).2.1 (manAt rm d).2.2.1 (manAt rm d).2.2.2.1 (manAt rm d).2.2.2.2.1 else spec_l09Load.j0 k true d (manAt rm d).1 (manAt rm d).2.1 (manAt rm d).2.2.1 (manAt rm d).2.2.2.1 (manAt rm d).2.2.2.2.1) _
 cases hs:stands (nameCmp ⟨#[109]⟩) d
 ·refine Ev.neg (by simp) (Ev.step (fun _ => rfl) ?_)
  simp only [spec_l09Load.j0]
  exact Ev.pos trivial (Ev.done (by simp [noLoad]))
 refine Ev.pos rfl (Ev.step (fun _ => rfl) ?_)
 simp only [spec_l09Load.j0]
 cases hm:(manAt rm d).2.2.2.2.2
 ·exact Ev.pos (by simp) (Ev.done (by simp [noLoad]))
 have hk:=man_good hrm hd hm
 obtain ⟨b1,-,-,-,-,-,-⟩:=manOk_bounds hk
 rw [Bool.true_and,if_pos rfl]
 refine Ev.neg (by simp) (spec_l09Load_l0 d hd (manAt rm d).1 _ _ _ _ (by omega) _ (fun ha => ?_) (fun ha => ?_) (manAt rm d).1 0 rfl rfl)
 ·rw [if_pos ha]
  exact spec_l09Load_l1 rb hrb d hd (manAt rm d).1 (by omega) _ _ _ _ (manAt rm d).1 0 0 [] _ rfl (by omega) (by simp)
 ·rw [if_neg (by rw [ha];simp)]
abbrev OS:=List Int×Int×Int×Int×List Int×List S145×Int×List S119×Int
def noShelf (c:Int):OS:=([],0,0,0,[],[],0,[],c)
def lastOf (segs:List Int):Int:=rd segs ((segs.length:Int) - 1)
def putRaw (d:List S122) (n e:Int):List S119:=if e < ((textAt (segT n) d).size:Int) then [⟨1,segT n,⟨#[]⟩,(textAt (segT n) d).extract 0 e.toNat⟩] else []
def shelfOf (rb:RBf) (rm:RMf) (d:List S122):OS :=
 if (loadOf rb rm d).2.2.2.2.2.2.2.2 = 0 then
  ((loadOf rb rm d).1,(loadOf rb rm d).2.1,(loadOf rb rm d).2.2.1,(loadOf rb rm d).2.2.2.1,(loadOf rb rm d).2.2.2.2.1,(loadOf rb rm d).2.2.2.2.2.1,(loadOf rb rm d).2.2.2.2.2.2.1,newDrop d++dropsOf (loadOf rb rm d).1 d++putRaw d (lastOf (loadOf rb rm d).1) (loadOf rb rm d).2.2.2.2.2.2.2.1,0)
 else noShelf (loadOf rb rm d).2.2.2.2.2.2.2.2
theorem endOf_bounds (rb:RBf) (d:List S122):∀ (l:List Int) (e:Int),0≤e→e≤1000000000→0≤endOf rb d l e∧endOf rb d l e≤1000000000
 | [],e,h0,h1 => ⟨h0,h1⟩
 | n::t,e,_,_ => by
  have:=segEnd_bounds rb d n
  rw [endOf]
  exact endOf_bounds rb d t _ (by omega) (by omega)
theorem load_good {rb:RBf} {rm:RMf} (hrm:∀ s,s.size≤1000000→RM s (rm s)) {d:List S122} (h:(loadOf rb rm d).2.2.2.2.2.2.2.2 = 0):diskOk d = true∧manOk (loadOf rb rm d).1 (loadOf rb rm d).2.1 (loadOf rb rm d).2.2.1 (loadOf rb rm d).2.2.2.1 (loadOf rb rm d).2.2.2.2.1 = true∧dirOk (loadOf rb rm d).2.2.2.2.2.1 = true∧0≤(loadOf rb rm d).2.2.2.2.2.2.2.1∧(loadOf rb rm d).2.2.2.2.2.2.2.1≤1000000000:=by
 unfold loadOf at h ⊢
 split at h
 ·rename_i hd
  rw [if_pos hd]
  split at h
  ·rename_i hs
   rw [if_pos hs]
   split at h
   ·rename_i ha
    rw [if_pos ha]
    split at h
    ·simp [noLoad] at h
    ·rename_i sp' st' ho
     split at h
     ·rename_i hk
      rw [if_pos hk]
      simp only [Bool.and_eq_true] at hs
      have:=endOf_bounds rb d (manAt rm d).1 0 (by omega) (by omega)
      exact ⟨hd,man_good hrm hd hs.2,hk,this.1,this.2⟩
     ·simp [noLoad] at h
   ·simp [noLoad] at h
  ·simp [noLoad] at h
 ·simp [noLoad] at h
theorem spec_OpenShelf_loop (d:List S122) (hd:diskOk d = true) (e:Int) (he0:0≤e) (he1:e≤1000000000) (segs:List Int) (hs1:1≤segs.length) (hs8:segs.length≤8) (m1 m2 m3:Int) (m4:List Int) (dir:List S145) (st:Int):∀ (rest:List S122) (n:Nat) (acc:List S119),d.drop n = rest→n≤d.length→acc.length≤n + 1 →
  Ev (fun k => spec_OpenShelf.l0 k e acc (n:Int) d segs m1 m2 m3 m4 dir st) (segs,m1,m2,m3,m4,dir,st,acc++dropsOf segs rest++putRaw d (lastOf segs) e,0):=by
 obtain ⟨hdl,hdu⟩:=diskOk_up hd
 intro rest
 induction rest with
 | nil =>
  intro n acc h hn ha
  have:=drop_nil h
  refine Ev.step (fun _ => rfl) ?_
  simp only [spec_OpenShelf.l0]
  rw [wrap64_id (n:=(segs.length:Int) - 1) (by omega) (by omega)]
  change Ev (fun k => if (n:Int) < (d.length:Int) then _ else if 0≤(segs.length:Int) - 1 then if (segs.length:Int) - 1 < (segs.length:Int) then (spec_SegName.f k (lastOf segs)).bind _ else none else none) _
  refine Ev.neg (by omega) (Ev.pos (by omega) (Ev.pos (by omega) (Ev.bind (spec_SegName_ev _) (Ev.bind (spec_l03Text_ev d (by omega) hdu _) ?_))))
  unfold putRaw
  refine Ev.ite (fun hc => Ev.pos (by omega) (Ev.pos (by unfold lastOf at *;omega) (Ev.pos (by omega) (Ev.done ?_)))) (fun hc => Ev.done ?_)
  ·rw [if_pos hc];simp [dropsOf]
  ·rw [if_neg hc];simp [dropsOf]
 | cons x t ih =>
  intro n acc h hn ha
  obtain ⟨h1,-,h3⟩:=drop_cons h
  have hm:=diskOk_mem hd x (List.mem_of_mem_drop (h ▸ List.mem_cons_self))
  refine Ev.step (fun _ => rfl) ?_
  simp only [spec_OpenShelf.l0,rdT122_drop h,wrap64_succ (show n≤9223372036854775806 by omega)]
  refine Ev.pos (by omega) (Ev.pos (by omega) (Ev.bind (spec_l09Seg_ev x.f0 (by omega)) (Ev.ite (fun hc => ?_) (fun hc => ?_))))
  ·refine Ev.bind (spec_l09In_ev segs _ (by omega)) (Ev.ite (fun hi => Ev.eq (ih (n + 1) acc h3 (by omega) (by omega)) ?_) (fun hi => Ev.pos (by omega) (Ev.eq (ih (n + 1) _ h3 (by omega) (by simp;omega)) ?_)))
   ·rw [dropsOf_cons,if_neg (by unfold dropB;simp only [Bool.and_eq_true,Bool.not_eq_true'];intro e;rw [hi] at e;exact absurd e.2 (by simp))];simp
   ·rw [dropsOf_cons,if_pos (by unfold dropB;rw [decide_eq_true hc,Bool.true_and,Bool.eq_false_iff.2 hi];rfl)];simp [dropRaw]
  ·refine Ev.eq (ih (n + 1) acc h3 (by omega) (by omega)) ?_
   rw [dropsOf_cons,if_neg (by unfold dropB;rw [decide_eq_false hc];simp)];simp
theorem spec_OpenShelf_ev (rb:RBf) (hrb:∀ c,c.size≤9000→RB c (rb c)) (rm:RMf) (hrm:∀ s,s.size≤1000000→RM s (rm s)) (d:List S122) (hl:d.length≤1048576):Ev (fun k => spec_OpenShelf.f k d) (shelfOf rb rm d):=by
 unfold spec_OpenShelf.f shelfOf
 refine Ev.bind (spec_l09Load_ev rb hrb rm hrm d hl) (Ev.call rfl ?_)
 refine Ev.ite (fun hc => ?_) (fun hc => Ev.done (by rw [if_neg hc];rfl))
 rw [if_pos hc]
 obtain ⟨g1,g2,g3,g4,g5⟩:=load_good hrm hc
 obtain ⟨hdl,hdu⟩:=diskOk_up g1
 obtain ⟨b1,-,-,-,-,-,-⟩:=manOk_bounds g2
 refine Ev.bind (spec_l03At_ev d hl hdu _) ?_
 unfold placeAt newDrop
 have go:∀ acc:List S119,acc.length≤1→Ev (fun k => spec_OpenShelf.j0 k (loadOf rb rm d).2.2.2.2.2.2.2.1 acc d (loadOf rb rm d).1 (loadOf rb rm d).2.1 (loadOf rb rm d).2.2.1 (loadOf rb rm d).2.2.2.1 (loadOf rb rm d).2.2.2.2.1 (loadOf rb rm d).2.2.2.2.2.1 (loadOf rb rm d).2.2.2.2.2.2.1) ((loadOf rb rm d).1,(loadOf rb rm d).2.1,(loadOf rb rm d).2.2.1,(loadOf rb rm d).2.2.2.1,(loadOf rb rm d).2.2.2.2.1,(loadOf rb rm d).2.2.2.2.2.1,(loadOf rb rm d).2.2.2.2.2.2.1,acc++dropsOf (loadOf rb rm d).1 d++putRaw d (lastOf (loadOf rb rm d).1) (loadOf rb rm d).2.2.2.2.2.2.2.1,0):=fun acc ha => by
  refine Ev.step (fun _ => rfl) ?_
  simp only [spec_OpenShelf.j0]
  exact spec_OpenShelf_loop d g1 _ g4 g5 _ (by omega) (by omega) _ _ _ _ _ _ d 0 acc rfl (by omega) (by omega)
 cases hs:stands (nameCmp ⟨#[109,43]⟩) d
 ·exact Ev.neg (by simp) (Ev.eq (go [] (by simp)) (by simp))
 ·exact Ev.pos (by simp) (Ev.pos (by simp) (Ev.eq (go _ (by simp)) (by simp)))
def tailPut (rb:RBf) (d:List S122):List Int→List S119
 | [] => []
 | [n] => putRaw d n (segEnd rb d n)
 | _::m::t => tailPut rb d (m::t)
theorem tailPut_last (rb:RBf) (d:List S122):∀ (l:List Int) (e:Int),l≠[]→tailPut rb d l = putRaw d (lastOf l) (endOf rb d l e)
 | [],_,h => absurd rfl h
 | [n],e,_ => by simp [tailPut,lastOf,endOf,rd]
 | a::m::t,e,_ => by
  rw [tailPut,endOf,tailPut_last rb d (m::t) (segEnd rb d a) (by simp)]
  congr 1
  unfold lastOf rd
  simp only [List.length_cons]
  rw [show (((t.length + 1 + 1:Nat):Int) - 1).toNat = t.length + 1 by omega,show (((t.length + 1:Nat):Int) - 1).toNat = t.length by omega,List.getD_cons_succ]
theorem impl_OpenShelf_l1 (rb:RBf) (hrb:∀ c,c.size≤9000→RB c (rb c)) (d:List S122) (hd:diskOk d = true) (segs:List Int) (hsl:segs.length≤8) (nx ba bt:Int) (cf:List Int):∀ (rest:List Int) (n:Nat) (raws:List S119) (sp:List S145) (st:Int),segs.drop n = rest→n≤segs.length→raws.length + rest.length≤1000→sp.length≤200040 * n →
  Ev (fun k => impl_OpenShelf.l1 k raws sp segs (segs.length:Int) (n:Int) d [] 0 0 0 [] [] 0 nx ba bt cf nx ba bt [] st) (match openOn rb d rest sp st with
   | none => noShelf 4
   | some (sp',st') => if dirOk (sp'.foldl layS []) = true then (segs,nx,ba,bt,cf,sp'.foldl layS [],st',raws++tailPut rb d rest,0) else noShelf 4):=by
 intro rest
 induction rest with
 | nil =>
  intro n raws sp st h hn hr hl
  have:=drop_nil h
  refine Ev.step (fun _ => rfl) ?_
  simp only [impl_OpenShelf.l1,openOn,tailPut]
  refine Ev.neg (by omega) (Ev.bind (impl_DirMore_ev [] sp (by simp only [List.length_nil];omega)) ?_)
  unfold dirMore
  rw [if_pos (show dirOk ([]:List S145) = true from rfl)]
  cases hk:dirOk (sp.foldl layS [])
  ·exact Ev.neg (by simp) (Ev.done (by simp [noShelf]))
  ·exact Ev.pos (by simp) (Ev.done (by simp))
 | cons x t ih =>
  intro n raws sp st h hn hr hl
  obtain ⟨h1,-,h3⟩:=drop_cons h
  obtain ⟨l1,l2⟩:=segScan_len rb hrb d x
  have ht:=textAt_size hd (segT x)
  have hb:=segEnd_bounds rb d x
  have hne:t≠[]↔n + 1 < segs.length:=by
   rw [←h3]
   constructor
   ·intro hh
    rcases Nat.lt_or_ge (n + 1) segs.length with h5 | h5
    ·exact h5
    ·exact absurd (List.drop_eq_nil_of_le h5) hh
   ·intro hh he
    have:=drop_nil he;omega
  refine Ev.step (fun _ => rfl) ?_
  simp only [impl_OpenShelf.l1,drop_rd h,wrap64_succ (show n≤9223372036854775806 by omega)]
  rw [wrap64_id (n:=(segs.length:Int) - 1) (by omega) (by omega)]
  refine Ev.pos (by omega) (Ev.pos (by omega) (Ev.pos (by omega) (Ev.call (impl_SegName_eq x) (Ev.bind (impl_FileAt_ev d hd _) (Ev.bind (impl_ScanSeg_ev rb hrb (textAt (segT x) d) x) (Ev.bind (impl_batchesOf_ev rb hrb (textAt (segT x) d)) ?_))))))
  have hS:scanOn rb x 0 (unframe (textAt (segT x) d)).1 ([],[],-1) = segScan rb d x:=rfl
  have hE:endOn rb 0 (unframe (textAt (segT x) d)).1 = segEnd rb d x:=rfl
  rw [hS,hE]
  dsimp only
  rw [List.length_cons] at hr
  have go:∀ raws':List S119,raws'.length + t.length≤1000→Ev (fun k => impl_OpenShelf.l1 k raws' (sp++(segScan rb d x).1) segs (segs.length:Int) ((n + 1:Nat):Int) d [] 0 0 0 [] [] 0 nx ba bt cf nx ba bt [] (mx st (segScan rb d x).2.2)) (match openOn rb d t (sp++(segScan rb d x).1) (mx st (segScan rb d x).2.2) with
   | none => noShelf 4
   | some (sp',st') => if dirOk (sp'.foldl layS []) = true then (segs,nx,ba,bt,cf,sp'.foldl layS [],st',raws'++tailPut rb d t,0) else noShelf 4):=fun raws' hr' => ih (n + 1) raws' _ _ h3 (by omega) hr' (by rw [List.length_append];omega)
  rw [openOn]
  by_cases hc:segEnd rb d x < ((textAt (segT x) d).size:Int)
  ·by_cases hcn:t≠[]
   ·rw [if_pos ⟨hc,hcn⟩]
    have:=hne.1 hcn
    exact Ev.pos hc (Ev.pos (by omega) (Ev.now _))
   ·have hcn:=Decidable.not_not.1 hcn
    have:¬ n + 1 < segs.length:=fun h5 => hne.2 h5 hcn
    rw [if_neg (fun h5 => h5.2 hcn)]
    refine Ev.pos hc (Ev.neg (by omega) (Ev.pos hc (Ev.call (impl_SegName_eq x) (Ev.pos (by omega) (Ev.pos (by omega) (Ev.pos (by omega) (Ev.pos (by omega) (Ev.eq (go _ (by simp;omega)) ?_))))))))
    subst hcn
    simp only [openOn,tailPut,List.append_nil,List.append_assoc]
    unfold putRaw
    rw [if_pos hc]
  ·rw [if_neg (fun h5 => hc h5.1)]
   refine Ev.neg hc (Ev.neg hc (Ev.pos (by omega) (Ev.eq (go raws (by omega)) ?_)))
   have e:tailPut rb d (x::t) = tailPut rb d t:=by
    cases t with
    | nil => simp only [tailPut];unfold putRaw;rw [if_neg hc]
    | cons y t => rw [tailPut]
   rw [e]
theorem impl_OpenShelf_l0 (d:List S122) (hd:diskOk d = true) (segs:List Int) (nx ba bt:Int) (cf:List Int) (hsl:segs.length≤8) (r:OS) (hr:segs.all (fun n => stands (nameCmp (segT n)) d) = true→Ev (fun k => (impl_cleaning.f k d segs nx ba bt cf).bind fun t5 => impl_OpenShelf.l1 k t5 [] segs (segs.length:Int) 0 d [] 0 0 0 [] [] 0 nx ba bt cf nx ba bt [] ba) r) (hn:segs.all (fun n => stands (nameCmp (segT n)) d) = false→r = noShelf 3):∀ (rest:List Int) (n:Nat),segs.drop n = rest→segs.all (fun n => stands (nameCmp (segT n)) d) = rest.all (fun n => stands (nameCmp (segT n)) d) →
  Ev (fun k => impl_OpenShelf.l0 k segs (segs.length:Int) (n:Int) d [] 0 0 0 [] [] 0 nx ba bt cf) r:=by
 intro rest
 induction rest with
 | nil =>
  intro n h ha
  have:=drop_nil h
  refine Ev.step (fun _ => rfl) ?_
  simp only [impl_OpenShelf.l0]
  exact Ev.neg (by omega) (hr (by rw [ha];rfl))
 | cons x t ih =>
  intro n h ha
  obtain ⟨h1,-,h3⟩:=drop_cons h
  refine Ev.step (fun _ => rfl) ?_
  simp only [impl_OpenShelf.l0,drop_rd h,wrap64_succ (show n≤9223372036854775806 by omega)]
  refine Ev.pos (by omega) (Ev.pos (by omega) (Ev.pos (by omega) (Ev.call (impl_SegName_eq x) (Ev.bind (impl_FileAt_ev d hd _) ?_))))
  rw [List.all_cons] at ha
  dsimp only
  cases hs:stands (nameCmp (segT x)) d
  ·rw [hs,Bool.false_and] at ha
   exact Ev.neg (by simp) (Ev.done (hn ha).symm)
  ·rw [hs,Bool.true_and] at ha
   exact Ev.pos rfl (ih (n + 1) h3 ha)
theorem dropsOf_len (segs:List Int) (l:List S122):(dropsOf segs l).length≤l.length:=by
 unfold dropsOf
 rw [List.length_map]
 exact List.length_filter_le _ _
theorem newDrop_len (l:List S122):(newDrop l).length≤1:=by unfold newDrop;split <;> simp
theorem impl_OpenShelf_ev (rb:RBf) (hrb:∀ c,c.size≤9000→RB c (rb c)) (rm:RMf) (hrm:∀ s,s.size≤1000000→RM s (rm s)) (d:List S122) (hl:d.length≤1048576):Ev (fun k => impl_OpenShelf.f k d) (shelfOf rb rm d):=by
 unfold impl_OpenShelf.f shelfOf loadOf
 refine Ev.bind (impl_DiskOk_ev d hl) ?_
 cases hd:diskOk d
 ·exact Ev.neg (by simp) (Ev.done (by simp [noLoad,noShelf]))
 have ht:=textAt_size hd ⟨#[109]⟩
 refine Ev.pos rfl (Ev.bind (impl_FileAt_ev d hd _) (Ev.bind (hrm (textAt ⟨#[109]⟩ d) (by omega)).2.1 ?_))
 rw [if_pos (show true = true from rfl)]
 change Ev (fun k => if stands (nameCmp ⟨#[109]⟩) d = true then (if (manAt rm d).2.2.2.2.2 = true then impl_OpenShelf.l0 k (manAt rm d).1 ((manAt rm d).1.length:Int) 0 d [] 0 0 0 [] [] 0 (manAt rm d).2.1 (manAt rm d).2.2.1 (manAt rm d).2.2.2.1 (manAt rm d).2.2.2.2.1 else some (noShelf 2)) else some (noShelf 2)) _
 cases hs:stands (nameCmp ⟨#[109]⟩) d
 ·exact Ev.neg (by simp) (Ev.done (by simp [noLoad,noShelf]))
 refine Ev.pos rfl ?_
 cases hm:(manAt rm d).2.2.2.2.2
 ·exact Ev.neg (by simp) (Ev.done (by simp [noLoad,noShelf]))
 have hk:=man_good hrm hd hm
 obtain ⟨b1,-,-,-,-,b6,-⟩:=manOk_bounds hk
 have hdl:=(diskOk_up hd).1
 have hnd:=newDrop_len d
 have hdo:=dropsOf_len (manAt rm d).1 d
 rw [Bool.true_and,if_pos (show true = true from rfl)]
 refine Ev.pos rfl (impl_OpenShelf_l0 d hd (manAt rm d).1 _ _ _ _ (by omega) _ (fun ha => ?_) (fun ha => ?_) (manAt rm d).1 0 rfl rfl)
 ·rw [if_pos ha]
  refine Ev.bind (impl_cleaning_ev d hd (manAt rm d).1 (by omega) b6 _ _ _ _) (Ev.eq (impl_OpenShelf_l1 rb hrb d hd (manAt rm d).1 (by omega) _ _ _ _ (manAt rm d).1 0 _ [] _ rfl (by omega) (by rw [List.length_append];omega) (by simp)) ?_)
  cases ho:openOn rb d (manAt rm d).1 [] (manAt rm d).2.2.1 with
  | none => simp [noLoad,noShelf]
  | some z =>
   obtain ⟨sp',st'⟩:=z
   dsimp only
   split
   ·rename_i hdk
    rw [tailPut_last rb d _ 0 (by intro e;rw [e] at b1;simp at b1)]
    simp
   ·simp [noLoad,noShelf]
 ·simp only [ha,Bool.false_eq_true,if_false]
  simp [noLoad,noShelf]
theorem dirOk_small {l:List S145} (h:dirOk l = true):l.length≤60:=by
 rw [dirOk,Bool.and_eq_true,decide_eq_true_iff] at h
 exact h.1
theorem shelfOf_small {rb:RBf} {rm:RMf} (hrm:∀ s,s.size≤1000000→RM s (rm s)) (d:List S122):(shelfOf rb rm d).1.length≤8∧(shelfOf rb rm d).2.2.2.2.1.length≤4∧(shelfOf rb rm d).2.2.2.2.2.1.length≤60∧(shelfOf rb rm d).2.2.2.2.2.2.2.1.length≤32:=by
 unfold shelfOf
 split
 ·rename_i hc
  obtain ⟨g1,g2,g3,-,-⟩:=load_good hrm hc
  obtain ⟨b1,-,-,-,b5,-,-⟩:=manOk_bounds g2
  have hdl:=(diskOk_up g1).1
  have hnd:=newDrop_len d
  have hdo:=dropsOf_len (loadOf rb rm d).1 d
  have h3:=dirOk_small g3
  have hp:(putRaw d (lastOf (loadOf rb rm d).1) (loadOf rb rm d).2.2.2.2.2.2.2.1).length≤1:=by unfold putRaw;split <;> simp
  dsimp only
  simp only [List.length_append]
  omega
 ·simp [noShelf]
theorem rb_all:∃ rb:RBf,∀ c,c.size≤9000→RB c (rb c):=Classical.axiomOfChoice (r:=fun (c:ByteArray) (r:Int×List S162×Bool) => c.size≤9000→RB c r) (fun c => by
 by_cases h:c.size≤9000
 ·obtain ⟨r,hr⟩:=readBatch_both c (by omega)
  exact ⟨r,fun _ => hr⟩
 ·exact ⟨(0,[],false),fun h' => absurd h' h⟩)
theorem rm_all:∃ rm:RMf,∀ s,s.size≤1000000→RM s (rm s):=Classical.axiomOfChoice (r:=fun (s:ByteArray) (r:Man) => s.size≤1000000→RM s r) (fun s => by
 by_cases h:s.size≤1000000
 ·obtain ⟨r,hr⟩:=readManifest_both s h
  exact ⟨r,fun _ => hr⟩
 ·exact ⟨noMan,fun h' => absurd h' h⟩)
theorem shelf_load {rb:RBf} {rm:RMf} {d:List S122} (h:(shelfOf rb rm d).2.2.2.2.2.2.2.2 = 0):(loadOf rb rm d).2.2.2.2.2.2.2.2 = 0:=by
 unfold shelfOf at h
 split at h
 ·assumption
 ·exact h
theorem shelf_good {rb:RBf} {rm:RMf} (hrm:∀ s,s.size≤1000000→RM s (rm s)) {d:List S122} (h:(shelfOf rb rm d).2.2.2.2.2.2.2.2 = 0):diskOk d = true∧manOk (shelfOf rb rm d).1 (shelfOf rb rm d).2.1 (shelfOf rb rm d).2.2.1 (shelfOf rb rm d).2.2.2.1 (shelfOf rb rm d).2.2.2.2.1 = true∧dirOk (shelfOf rb rm d).2.2.2.2.2.1 = true:=by
 have hc:=shelf_load h
 obtain ⟨g1,g2,g3,-,-⟩:=load_good hrm hc
 unfold shelfOf
 rw [if_pos hc]
 exact ⟨g1,g2,g3⟩
theorem spec_l09SameInts_loop (l m:List Int) (hl:l.length≤9223372036854775806) (he:l.length = m.length):∀ (ra rb:List Int) (n:Nat),l.drop n = ra→m.drop n = rb→Ev (fun k => spec_l09SameInts.l0 k l m (n:Int)) (decide (ra = rb)):=by
 intro ra
 induction ra with
 | nil =>
  intro rb n h1 h2
  have h3:=drop_nil h1
  have:rb = []:=by rw [←h2];exact List.drop_eq_nil_of_le (by omega)
  subst this
  refine Ev.step (fun _ => rfl) ?_
  simp only [spec_l09SameInts.l0]
  exact Ev.neg (by omega) (Ev.done (by simp))
 | cons x t ih =>
  intro rb n h1 h2
  obtain ⟨k1,-,k3⟩:=drop_cons h1
  cases rb with
  | nil => have:=drop_nil h2;omega
  | cons y u =>
   obtain ⟨j1,-,j3⟩:=drop_cons h2
   refine Ev.step (fun _ => rfl) ?_
   simp only [spec_l09SameInts.l0,drop_rd h1,drop_rd h2,wrap64_succ (show n≤9223372036854775806 by omega)]
   refine Ev.pos (by omega) (Ev.pos (by omega) (Ev.pos (by omega) (Ev.ite (fun hc => Ev.eq (ih u (n + 1) k3 j3) ?_) (fun hc => Ev.done ?_))))
   ·subst hc;simp
   ·simp [hc]
theorem spec_l09SameInts_ev (l m:List Int) (hl:l.length≤9223372036854775806):Ev (fun k => spec_l09SameInts.f k l m) (decide (l = m)):=by
 unfold spec_l09SameInts.f
 refine Ev.ite (fun hc => spec_l09SameInts_loop l m hl (by omega) l m 0 rfl rfl) (fun hc => Ev.done ?_)
 exact (decide_eq_false (fun e => hc (by rw [e]))).symm
def spotTup (x:S145):ByteArray×Int×Int×Int:=(x.f0,x.f1,x.f2,x.f3)
theorem spotTup_inj:∀ {l m:List S145},l.map spotTup = m.map spotTup→l = m
 | [],[],_ => rfl
 | [],_::_,h => by simp at h
 | _::_,[],h => by simp at h
 | ⟨a,b,c,d⟩::l,⟨a',b',c',d'⟩::m,h => by
  simp only [List.map_cons,List.cons.injEq,spotTup,Prod.mk.injEq] at h
  obtain ⟨⟨rfl,rfl,rfl,rfl⟩,h⟩:=h
  rw [spotTup_inj h]
def shelfEq (s0:List Int) (a b c:Int) (s4:List Int) (dir:List S145) (st:Int) (t0:List Int) (a' b' c':Int) (t4:List Int) (dir':List S145) (st':Int):Bool :=
 decide (st = st') && (decide (s0 = t0) && (decide (a = a') && (decide (b = b') && (decide (c = c') && (decide (s4 = t4) && decide (dir.map spotTup = dir'.map spotTup))))))
theorem shelfEq_true {s0 t0 s4 t4:List Int} {a b c st a' b' c' st':Int} {dir dir':List S145} (h:shelfEq s0 a b c s4 dir st t0 a' b' c' t4 dir' st' = true):st = st'∧s0 = t0∧a = a'∧b = b'∧c = c'∧s4 = t4∧dir = dir':=by
 unfold shelfEq at h
 simp only [Bool.and_eq_true,decide_eq_true_iff] at h
 exact ⟨h.1,h.2.1,h.2.2.1,h.2.2.2.1,h.2.2.2.2.1,h.2.2.2.2.2.1,spotTup_inj h.2.2.2.2.2.2⟩
theorem shelfEq_symm (s0:List Int) (a b c:Int) (s4:List Int) (dir:List S145) (st:Int) (t0:List Int) (a' b' c':Int) (t4:List Int) (dir':List S145) (st':Int):shelfEq s0 a b c s4 dir st t0 a' b' c' t4 dir' st' = shelfEq t0 a' b' c' t4 dir' st' s0 a b c s4 dir st:=by
 have h:∀ {s0 t0 s4 t4:List Int} {a b c st a' b' c' st':Int} {dir dir':List S145},shelfEq s0 a b c s4 dir st t0 a' b' c' t4 dir' st' = true→shelfEq t0 a' b' c' t4 dir' st' s0 a b c s4 dir st = true:=by
  intro s0 t0 s4 t4 a b c st a' b' c' st' dir dir' h
  obtain ⟨rfl,rfl,rfl,rfl,rfl,rfl,rfl⟩:=shelfEq_true h
  exact h
 exact Bool.eq_iff_iff.2 ⟨h,h⟩
theorem spec_l09Same_loop (l m:List S145) (hl:l.length≤9223372036854775806) (he:l.length = m.length) (s0:List Int) (a b c:Int) (s4:List Int) (st:Int) (t0:List Int) (a' b' c':Int) (t4:List Int) (st':Int):∀ (ra rb:List S145) (n:Nat),l.drop n = ra→m.drop n = rb→Ev (fun k => spec_l09Same.l0 k (n:Int) s0 a b c s4 l st t0 a' b' c' t4 m st') (decide (ra.map spotTup = rb.map spotTup)):=by
 intro ra
 induction ra with
 | nil =>
  intro rb n h1 h2
  have h3:=drop_nil h1
  have:rb = []:=by rw [←h2];exact List.drop_eq_nil_of_le (by omega)
  subst this
  refine Ev.step (fun _ => rfl) ?_
  simp only [spec_l09Same.l0]
  exact Ev.neg (by omega) (Ev.done (by simp))
 | cons x t ih =>
  intro rb n h1 h2
  obtain ⟨k1,-,k3⟩:=drop_cons h1
  cases rb with
  | nil => have:=drop_nil h2;omega
  | cons y u =>
   obtain ⟨j1,-,j3⟩:=drop_cons h2
   refine Ev.step (fun _ => rfl) ?_
   simp only [spec_l09Same.l0,rdT145_drop h1,rdT145_drop h2,wrap64_succ (show n≤9223372036854775806 by omega)]
   refine Ev.pos (by omega) (Ev.pos (by omega) (Ev.pos (by omega) (Ev.ite (fun hc => Ev.done ?_) (fun hc => Ev.eq (ih u (n + 1) k3 j3) ?_))))
   ·symm
    rw [decide_eq_false_iff_not]
    intro e
    simp only [List.map_cons,List.cons.injEq,spotTup,Prod.mk.injEq] at e
    obtain ⟨⟨e1,e2,e3,e4⟩,-⟩:=e
    simp [e1,e2,e3,e4] at hc
   ·simp only [Bool.not_eq_true,Bool.or_eq_false_iff,Bool.not_eq_false',beq_iff_eq] at hc
    obtain ⟨e1,e2,e3,e4⟩:=hc
    have e1:=toList_inj.1 e1
    simp [spotTup,e1,e2,e3,e4]
theorem spec_l09Same_ev (s0:List Int) (a b c:Int) (s4:List Int) (dir:List S145) (st:Int) (t0:List Int) (a' b' c':Int) (t4:List Int) (dir':List S145) (st':Int) (h0:s0.length≤9223372036854775806) (h4:s4.length≤9223372036854775806) (h5:dir.length≤9223372036854775806):Ev (fun k => spec_l09Same.f k s0 a b c s4 dir st t0 a' b' c' t4 dir' st') (shelfEq s0 a b c s4 dir st t0 a' b' c' t4 dir' st'):=by
 have no:∀ r:Bool,r = false→Ev (fun k => spec_l09Same.j0 k true s0 a b c s4 dir st t0 a' b' c' t4 dir' st') r:=fun r hr => by
  refine Ev.step (fun _ => rfl) ?_
  simp only [spec_l09Same.j0]
  exact Ev.pos trivial (Ev.done hr.symm)
 unfold spec_l09Same.f
 refine Ev.ite (fun e1 => Ev.bind (spec_l09SameInts_ev s0 t0 h0) (Ev.ite (fun e2 => Ev.ite (fun e3 => Ev.ite (fun e4 => Ev.ite (fun e5 => Ev.bind (spec_l09SameInts_ev s4 t4 h4) (Ev.ite (fun e6 => ?_) (fun e6 => no _ ?_))) (fun e5 => no _ ?_)) (fun e4 => no _ ?_)) (fun e3 => no _ ?_)) (fun e2 => no _ ?_))) (fun e1 => no _ ?_)
 ·have e2:=of_decide_eq_true e2
  have e6:=of_decide_eq_true e6
  subst e1 e2 e3 e4 e5 e6
  refine Ev.step (fun _ => rfl) ?_
  simp only [spec_l09Same.j0]
  refine Ev.ite (fun hc => Ev.done ?_) (fun hc => ?_)
  ·symm
   unfold shelfEq
   have:¬ dir.map spotTup = dir'.map spotTup:=fun e => by
    have:=congrArg List.length e
    simp only [List.length_map] at this
    simp [this] at hc
   simp [this]
  ·have he:dir.length = dir'.length:=by have hi:=hc;simp at hi;omega
   refine Ev.eq (spec_l09Same_loop dir dir' h5 he _ _ _ _ _ _ _ _ _ _ _ _ dir dir' 0 rfl rfl) ?_
   simp [shelfEq]
 ·unfold shelfEq;simp at e6;simp [e6]
 ·unfold shelfEq;simp [e5]
 ·unfold shelfEq;simp [e4]
 ·unfold shelfEq;simp [e3]
 ·unfold shelfEq;simp at e2;simp [e2]
 ·unfold shelfEq;simp [e1]
theorem eqInts_loop (l m:List Int) (hl:l.length≤9223372036854775806) (he:l.length = m.length):∀ (ra rb:List Int) (n:Nat),l.drop n = ra→m.drop n = rb→Ev (fun k => slices_Equal_int_int.l0 k l m (l.length:Int) (n:Int)) (decide (ra = rb)):=by
 intro ra
 induction ra with
 | nil =>
  intro rb n h1 h2
  have h3:=drop_nil h1
  have:rb = []:=by rw [←h2];exact List.drop_eq_nil_of_le (by omega)
  subst this
  refine Ev.step (fun _ => rfl) ?_
  simp only [slices_Equal_int_int.l0]
  exact Ev.neg (by omega) (Ev.done (by simp))
 | cons x t ih =>
  intro rb n h1 h2
  obtain ⟨k1,-,k3⟩:=drop_cons h1
  cases rb with
  | nil => have:=drop_nil h2;omega
  | cons y u =>
   obtain ⟨j1,-,j3⟩:=drop_cons h2
   refine Ev.step (fun _ => rfl) ?_
   simp only [slices_Equal_int_int.l0,drop_rd h1,drop_rd h2,wrap64_succ (show n≤9223372036854775806 by omega)]
   refine Ev.pos (by omega) (Ev.pos (by omega) (Ev.pos (by omega) (Ev.pos (by omega) (Ev.ite (fun hc => Ev.eq (ih u (n + 1) k3 j3) ?_) (fun hc => Ev.done ?_)))))
   ·subst hc;simp
   ·simp [hc]
theorem eqInts_ev (l m:List Int) (hl:l.length≤9223372036854775806):Ev (fun k => slices_Equal_int_int.f k l m) (decide (l = m)):=by
 unfold slices_Equal_int_int.f
 refine Ev.ite (fun hc => eqInts_loop l m hl (by omega) l m 0 rfl rfl) (fun hc => Ev.done ?_)
 exact (decide_eq_false (fun e => hc (by rw [e]))).symm
theorem eqSpots_loop (l m:List S145) (hl:l.length≤9223372036854775806) (he:l.length = m.length):∀ (ra rb:List S145) (n:Nat),l.drop n = ra→m.drop n = rb→Ev (fun k => slices_Equal_impl_Spot_impl_Spot.l0 k l m (l.length:Int) (n:Int)) (decide (ra.map spotTup = rb.map spotTup)):=by
 intro ra
 induction ra with
 | nil =>
  intro rb n h1 h2
  have h3:=drop_nil h1
  have:rb = []:=by rw [←h2];exact List.drop_eq_nil_of_le (by omega)
  subst this
  refine Ev.step (fun _ => rfl) ?_
  simp only [slices_Equal_impl_Spot_impl_Spot.l0]
  exact Ev.neg (by omega) (Ev.done (by simp))
 | cons x t ih =>
  intro rb n h1 h2
  obtain ⟨k1,-,k3⟩:=drop_cons h1
  cases rb with
  | nil => have:=drop_nil h2;omega
  | cons y u =>
   obtain ⟨j1,-,j3⟩:=drop_cons h2
   refine Ev.step (fun _ => rfl) ?_
   simp only [slices_Equal_impl_Spot_impl_Spot.l0,rdT145_drop h1,rdT145_drop h2,wrap64_succ (show n≤9223372036854775806 by omega)]
   refine Ev.pos (by omega) (Ev.pos (by omega) (Ev.pos (by omega) (Ev.pos (by omega) (Ev.ite (fun hc => Ev.eq (ih u (n + 1) k3 j3) ?_) (fun hc => Ev.done ?_)))))
   ·simp only [Bool.and_eq_true,beq_iff_eq] at hc
    obtain ⟨e1,e2,e3,e4⟩:=hc
    have e1:=toList_inj.1 e1
    simp [spotTup,e1,e2,e3,e4]
   ·symm
    rw [decide_eq_false_iff_not]
    intro e
    simp only [List.map_cons,List.cons.injEq,spotTup,Prod.mk.injEq] at e
    obtain ⟨⟨e1,e2,e3,e4⟩,-⟩:=e
    simp [e1,e2,e3,e4] at hc
theorem eqSpots_ev (l m:List S145) (hl:l.length≤9223372036854775806):Ev (fun k => slices_Equal_impl_Spot_impl_Spot.f k l m) (decide (l.map spotTup = m.map spotTup)):=by
 unfold slices_Equal_impl_Spot_impl_Spot.f
 refine Ev.ite (fun hc => eqSpots_loop l m hl (by omega) l m 0 rfl rfl) (fun hc => Ev.done ?_)
 refine (decide_eq_false (fun e => hc ?_)).symm
 have:=congrArg List.length e
 simp only [List.length_map] at this
 rw [this]
theorem impl_sameShelf_ev (s0:List Int) (a b c:Int) (s4:List Int) (dir:List S145) (st:Int) (t0:List Int) (a' b' c':Int) (t4:List Int) (dir':List S145) (st':Int) (h0:s0.length≤9223372036854775806) (h4:s4.length≤9223372036854775806) (h5:dir.length≤9223372036854775806):Ev (fun k => impl_sameShelf.f k s0 a b c s4 dir st t0 a' b' c' t4 dir' st') (shelfEq s0 a b c s4 dir st t0 a' b' c' t4 dir' st'):=by
 have hm:Ev (fun k => impl_sameManifest.f k s0 a b c s4 t0 a' b' c' t4) (decide (s0 = t0) && (decide (a = a') && (decide (b = b') && (decide (c = c') && decide (s4 = t4))))):=by
  unfold impl_sameManifest.f
  refine Ev.bind (eqInts_ev s0 t0 h0) (Ev.ite (fun e2 => Ev.ite (fun e3 => Ev.ite (fun e4 => Ev.ite (fun e5 => Ev.bind (eqInts_ev s4 t4 h4) (Ev.done ?_)) (fun e5 => Ev.done ?_)) (fun e4 => Ev.done ?_)) (fun e3 => Ev.done ?_)) (fun e2 => Ev.done ?_))
  ·simp only [e2,e3,e4,e5,decide_true,Bool.true_and]
  ·simp [e5]
  ·simp [e4]
  ·simp [e3]
  ·rw [Bool.eq_false_iff.2 e2,Bool.false_and]
 unfold impl_sameShelf.f
 refine Ev.bind hm (Ev.ite (fun e1 => Ev.bind (eqSpots_ev dir dir' h5) (Ev.ite (fun e2 => Ev.done ?_) (fun e2 => Ev.done ?_))) (fun e1 => Ev.done ?_))
 ·simp only [Bool.and_eq_true] at e1
  unfold shelfEq
  rw [e1.1,e1.2.1,e1.2.2.1,e1.2.2.2.1,e1.2.2.2.2,e2]
  simp only [Bool.and_true]
  exact Bool.eq_iff_iff.2 (by simp)
 ·unfold shelfEq;rw [Bool.eq_false_iff.2 e2];simp
 ·unfold shelfEq
  symm
  rw [Bool.eq_false_iff]
  intro h
  apply e1
  simp only [Bool.and_eq_true] at h ⊢
  exact ⟨h.2.1,h.2.2.1,h.2.2.2.1,h.2.2.2.2.1,h.2.2.2.2.2.1⟩
def snapOf (rb:RBf) (rm:RMf) (d:List S122) (s0:List Int) (a b c:Int) (s4:List Int) (dir:List S145) (st:Int):ByteArray×Bool :=
 if (shelfOf rb rm d).2.2.2.2.2.2.2.2 = 0∧shelfEq s0 a b c s4 dir st (shelfOf rb rm d).1 (shelfOf rb rm d).2.1 (shelfOf rb rm d).2.2.1 (shelfOf rb rm d).2.2.2.1 (shelfOf rb rm d).2.2.2.2.1 (shelfOf rb rm d).2.2.2.2.2.1 (shelfOf rb rm d).2.2.2.2.2.2.1 = true∧¬ b = 0 then
  match (unframe (textAt (segT (rd s0 0)) d)).1 with
  | [] => (⟨#[]⟩,false)
  | x::_ => if (rb x).2.2 = true∧(rb x).1 = b then frame x else (⟨#[]⟩,false)
 else (⟨#[]⟩,false)
theorem spec_SnapText_ev (rb:RBf) (hrb:∀ c,c.size≤9000→RB c (rb c)) (rm:RMf) (hrm:∀ s,s.size≤1000000→RM s (rm s)) (d:List S122) (hl:d.length≤1048576) (s0:List Int) (a b c:Int) (s4:List Int) (dir:List S145) (st:Int) (h0:s0.length≤1048576) (h4:s4.length≤1048576) (h5:dir.length≤1048576):Ev (fun k => spec_SnapText.f k d s0 a b c s4 dir st) (snapOf rb rm d s0 a b c s4 dir st):=by
 have no:∀ r:ByteArray×Bool,r = (⟨#[]⟩,false)→Ev (fun k => spec_SnapText.j0 k true d s0 a b c s4 dir st) r:=fun r hr => by
  refine Ev.step (fun _ => rfl) ?_
  simp only [spec_SnapText.j0]
  exact Ev.pos trivial (Ev.done hr.symm)
 unfold spec_SnapText.f snapOf
 refine Ev.bind (spec_OpenShelf_ev rb hrb rm hrm d hl) (Ev.ite (fun e1 => Ev.bind (spec_l09Same_ev s0 a b c s4 dir st _ _ _ _ _ _ _ (by omega) (by omega) (by omega)) (Ev.ite (fun e2 => ?_) (fun e2 => no _ ?_))) (fun e1 => no _ ?_))
 ·obtain ⟨g1,g2,-⟩:=shelf_good hrm e1
  obtain ⟨hdl,hdu⟩:=diskOk_up g1
  obtain ⟨b1,-,-,-,-,-,-⟩:=manOk_bounds g2
  obtain ⟨-,q0,-,-,-,-,-⟩:=shelfEq_true e2
  rw [←q0] at b1
  refine Ev.step (fun _ => rfl) ?_
  simp only [spec_SnapText.j0]
  refine Ev.ite (fun e3 => Ev.done ?_) (fun e3 => ?_)
  ·rw [if_neg (fun h => h.2.2 (by simpa using e3))]
  have e3':¬ b = 0:=by simpa using e3
  rw [if_pos ⟨e1,e2,e3'⟩]
  obtain ⟨u1,u2⟩:=unframe_bounds (textAt (segT (rd s0 0)) d)
  refine Ev.pos (by omega) (Ev.bind (spec_SegName_ev _) (Ev.bind (spec_l03Text_ev d hl hdu _) (Ev.bind (spec_Unframe_ev _) ?_)))
  cases hu:(unframe (textAt (segT (rd s0 0)) d)).1 with
  | nil => exact Ev.pos (by simp) (Ev.now _)
  | cons x t =>
   have hx:=u2 x (by rw [hu];exact List.mem_cons_self)
   have hr:rdOf ByteArray.empty (x::t) 0 = x:=rdOf_drop (n:=0) rfl
   refine Ev.neg (by simp;omega) (Ev.pos (by simp) ?_)
   rw [hr]
   dsimp only
   refine Ev.bind (hrb x hx).1 (Ev.ite (fun e4 => Ev.ite (fun e5 => Ev.bind (spec_Frame_ev x (by omega)) (Ev.done ?_)) (fun e5 => Ev.done ?_)) (fun e4 => Ev.done ?_))
   ·rw [if_pos ⟨e4,e5⟩]
   ·rw [if_neg (fun h => e5 h.2)]
   ·rw [if_neg (fun h => e4 h.1)]
 ·rw [if_neg (fun h => e2 h.2.1)]
 ·rw [if_neg (fun h => e1 h.1)]
theorem impl_SnapText_ev (rb:RBf) (hrb:∀ c,c.size≤9000→RB c (rb c)) (rm:RMf) (hrm:∀ s,s.size≤1000000→RM s (rm s)) (d:List S122) (hl:d.length≤1048576) (s0:List Int) (a b c:Int) (s4:List Int) (dir:List S145) (st:Int) (h0:s0.length≤1048576) (h4:s4.length≤1048576) (h5:dir.length≤1048576):Ev (fun k => impl_SnapText.f k d s0 a b c s4 dir st) (snapOf rb rm d s0 a b c s4 dir st):=by
 obtain ⟨w0,w4,w5,-⟩:=shelfOf_small (rb:=rb) hrm d
 unfold impl_SnapText.f snapOf
 refine Ev.bind (impl_OpenShelf_ev rb hrb rm hrm d hl) (Ev.ite (fun e1 => Ev.bind (impl_sameShelf_ev _ _ _ _ _ _ _ s0 a b c s4 dir st (by omega) (by omega) (by omega)) ?_) (fun e1 => Ev.done ?_))
 ·rw [shelfEq_symm]
  refine Ev.ite (fun e2 => ?_) (fun e2 => Ev.done ?_)
  ·obtain ⟨g1,g2,-⟩:=shelf_good hrm e1
   obtain ⟨hdl,hdu⟩:=diskOk_up g1
   obtain ⟨b1,-,-,-,-,-,-⟩:=manOk_bounds g2
   obtain ⟨-,q0,-,-,-,-,-⟩:=shelfEq_true e2
   rw [←q0] at b1
   have ht:=textAt_size g1 (segT (rd s0 0))
   refine Ev.ite (fun e3 => Ev.done ?_) (fun e3 => ?_)
   ·rw [if_neg (fun h => h.2.2 e3)]
   rw [if_pos ⟨e1,e2,e3⟩]
   obtain ⟨u1,u2⟩:=unframe_bounds (textAt (segT (rd s0 0)) d)
   refine Ev.pos (by omega) (Ev.call (impl_SegName_eq _) (Ev.bind (impl_FileAt_ev d g1 _) (Ev.bind (impl_batchesOf_ev rb hrb _) ?_)))
   cases hu:(unframe (textAt (segT (rd s0 0)) d)).1 with
   | nil => exact Ev.pos (by simp [piecesOf]) (Ev.now _)
   | cons x t =>
    have hx:=u2 x (by rw [hu];exact List.mem_cons_self)
    obtain ⟨f1,f2,f3⟩:=unframe_head hu
    dsimp only
    rw [piecesOf]
    by_cases e4:(rb x).2.2 = true
    ·rw [if_pos e4]
     have hr:∀ (p:S113) (l:List S113),rd_T113 (p::l) 0 = p:=fun p l => rdP_drop (n:=0) rfl
     rw [hr]
     dsimp only
     refine Ev.neg (by simp;omega) (Ev.pos (by simp) (Ev.ite (fun e5 => ?_) (fun e5 => Ev.done ?_)))
     ·have ez:wrap64 (0 + ((frame x).1.size:Int) - (x.size:Int) + (x.size:Int)) = ((frame x).1.size:Int):=by rw [wrap64_id (by omega) (by omega)];omega
      rw [ez]
      refine Ev.pos (by omega) (Ev.pos (by omega) (Ev.done ?_))
      rw [if_pos ⟨e4,e5⟩,Int.toNat_natCast,f2]
      exact Prod.ext rfl f1.symm
     ·rw [if_neg (fun h => e5 h.2)]
    ·rw [if_neg e4]
     exact Ev.pos (by simp) (Ev.done (by rw [if_neg (fun h => e4 h.1)]))
  ·rw [if_neg (fun h => e2 h.2.1)]
 ·rw [if_neg (fun h => e1 h.1)]
theorem FnExactSnapText_q (l:List S171) (s0:List Int) (a b c:Int) (s4:List Int) (dir:List S173) (a6:Int) (q:l.length * 32≤140737488351232∧∀ x∈l,x.f0.size≤140737488351232∧x.f1.size≤140737488351232)
  (q':((s0.length * 8≤140737488351232∧∀ x∈s0,(Lit.int .i64 x).wf = true)∧(Lit.int .i64 a).wf = true∧(Lit.int .i64 b).wf = true∧(Lit.int .i64 c).wf = true∧(s4.length * 8≤140737488351232∧∀ x∈s4,(Lit.int .i64 x).wf = true)) ∧
   (dir.length * 40≤140737488351232∧∀ x∈dir,x.f0.size≤140737488351232∧(Lit.int .i64 x.f1).wf = true∧(Lit.int .i64 x.f2).wf = true∧(Lit.int .i64 x.f3).wf = true)∧(Lit.int .i64 a6).wf = true) :
  ∃ k,laws_FnExactSnapText.f k l s0 a b c s4 dir a6 = some true:=by
 obtain ⟨⟨⟨q0,-⟩,-,-,-,q4,-⟩,⟨q5,q6⟩,-⟩:=q'
 apply Ev.rounds
 unfold laws_FnExactSnapText.f
 obtain ⟨r,hr,hb⟩:=laws_szDisk_ev l (by omega) q.2 1048576 (by omega) (by omega)
 refine Ev.bind hr (Ev.ite (fun _ => Ev.now _) (fun hn => ?_))
 have hb:=hb hn
 obtain ⟨r2,hr2,hb2⟩:=laws_szShelf_ev s0 a b c s4 dir a6 r (by omega) (by omega) (by omega) (by omega) (by omega) (fun x hx => (q6 x hx).1)
 refine Ev.bind hr2 (Ev.ite (fun _ => Ev.now _) (fun hn2 => ?_))
 have hb2:=hb2 hn2
 have hl:l.length≤1048576:=by omega
 have h0:s0.length≤1048576:=by omega
 have h4:s4.length≤1048576:=by omega
 have h5:dir.length≤1048576:=by omega
 have hlm:(l.map toFile).length≤1048576:=by simp only [List.length_map];omega
 have hdm:(dir.map toSpot).length≤1048576:=by simp only [List.length_map];omega
 have tl:=laws_toDisk_ev l hl
 have ts:=laws_toShelf_ev s0 a b c s4 dir a6 h0 h4 h5
 obtain ⟨rb,hrb⟩:=rb_all
 obtain ⟨rm,hrm⟩:=rm_all
 have hs:=spec_SnapText_ev rb hrb rm hrm (l.map toFile) hlm s0 a b c s4 (dir.map toSpot) a6 h0 h4 hdm
 have hi:=impl_SnapText_ev rb hrb rm hrm (l.map toFile) hlm s0 a b c s4 (dir.map toSpot) a6 h0 h4 hdm
 generalize snapOf rb rm (l.map toFile) s0 a b c s4 (dir.map toSpot) a6 = w at hs hi
 have e0:=laws_eqDisk_refl (l.map toFile) (by omega)
 have e1:=laws_eqShelf_refl s0 a b c s4 (dir.map toSpot) a6 (by omega) (by omega) (by omega)
 refine Ev.bind tl (Ev.bind ts (Ev.bind hs (Ev.bind tl (Ev.bind ts (Ev.bind hi (Ev.pos rfl (Ev.neg (by simp) (Ev.bind tl (Ev.bind e0 (Ev.pos rfl (Ev.bind ts (Ev.bind e1 (Ev.pos rfl (Ev.now _))))))))))))))
end Go.Ep
