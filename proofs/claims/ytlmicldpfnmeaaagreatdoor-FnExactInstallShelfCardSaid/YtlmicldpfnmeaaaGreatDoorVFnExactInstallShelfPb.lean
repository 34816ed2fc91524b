/- The pure statement of the law: its plain function answers true. No conditions but those that each statement names. By this repo's programs; comments are taken out. -/
import Derived.Test.YtlmicldpfnmeaaaGreatDoorVFnExactInstallShelfP
set_option linter.all false
namespace Go.Ep
open Go.RowKit Go.Proofs.YtlmicldpfnmeaaaGreatDoorW.PrintWords Go.Proofs.YtlmicldpfnmeaaaGreatDoorW.PrintLast Go.Proofs.YtlmicldpfnmeaaaGreatDoorW.PrintMore Go.Ev
def vl (l:List Int):List Int:=l.flatMap fun n => varL n.toNat
theorem vl_cons (x:Int) (l:List Int):vl (x::l) = varL x.toNat++vl l:=rfl
theorem curNum_fwdI {s:ByteArray} {a b x:Int} (h:At s a (varL x.toNat) b) (h0:0≤x) (h1:x≤1000000000):curNum s a false = (x,s,b,false):=by
 rw [curNum_fwd h (by omega),Int.toNat_of_nonneg h0]
abbrev Man:=List Int×Int×Int×Int×List Int×Bool
def noMan:Man:=([],0,0,0,[],false)
def MDec (x0:ByteArray) (r:Man):Prop:=r = noMan∨∃ segs nx ba bt cf,r = (segs,nx,ba,bt,cf,true)∧manText segs nx ba bt cf = (x0,true)
theorem man_parts {segs:List Int} {nx ba bt:Int} {cf:List Int} {s:ByteArray} (h:manText segs nx ba bt cf = (s,true)):manOk segs nx ba bt cf = true∧∃ t,unsealT s = (t,true)∧t.size≤20000∧bytesOf t = varL segs.length++(vl segs++(varL nx.toNat++(varL ba.toNat++(varL bt.toNat++(varL cf.length++vl cf))))):=by
 unfold manText at h
 by_cases hk:manOk segs nx ba bt cf = true
 ·rw [if_pos hk] at h
  refine ⟨hk,_,unseal_seal h,(seal_unseal (unseal_seal h)).2,?_⟩
  rw [bytesOf_strOfNums]
  ·simp [manNums,vl]
  ·intro x hx
   obtain ⟨n,-,hn⟩:=List.mem_flatMap.1 hx
   exact varL_bytes _ x hn
 ·rw [if_neg hk] at h;simp at h
theorem man_make {segs:List Int} {nx ba bt:Int} {cf:List Int} {s t:ByteArray} (hk:manOk segs nx ba bt cf = true) (hu:unsealT s = (t,true)) (hb:bytesOf t = varL segs.length++(vl segs++(varL nx.toNat++(varL ba.toNat++(varL bt.toNat++(varL cf.length++vl cf)))))):manText segs nx ba bt cf = (s,true):=by
 unfold manText
 rw [if_pos hk]
 have:strOfNums ((manNums segs nx ba bt cf).flatMap fun n => varL n.toNat) = t:=bytesOf_inj (by
  rw [bytesOf_strOfNums,hb]
  ·simp [manNums,vl]
  ·intro x hx
   obtain ⟨n,-,hn⟩:=List.mem_flatMap.1 hx
   exact varL_bytes _ x hn)
 rw [this]
 exact (seal_unseal hu).1
theorem sman_fin (x0:ByteArray) (segs:List Int) (nx ba bt:Int) (cf:List Int) (hs:segs.length≤1048576) (hc:cf.length≤1048576):To (fun k => (spec_ManifestText.f k segs nx ba bt cf).bind fun t => if t.2 = true then (if t.1.toList = x0.toList then (some (segs,nx,ba,bt,cf,true)) else (some ([],0,0,0,[],false))) else (some ([],0,0,0,[],false))) (MDec x0):=by
 refine To.bind (To.ev (P:=fun z => z = manText segs nx ba bt cf) (spec_ManifestText_ev segs nx ba bt cf (by omega) (by omega)) rfl) (fun z ez => ?_)
 refine To.ite (fun q1 => To.ite (fun q2 => To.now (Or.inr ⟨_,_,_,_,_,rfl,?_⟩)) (fun _ => To.now (Or.inl rfl))) (fun _ => To.now (Or.inl rfl))
 rw [←ez]
 exact Prod.ext (toList_inj.1 q2) q1
theorem sman_l1 (x0 s:ByteArray) (hs:s.size≤1048576) (N:Int) (segs:List Int) (hl:segs.length≤1048576) (nx ba bt:Int):∀ (m n:Nat) (cf:List Int) (a:Int) (b:Bool),5 - n≤m→n≤5→cf.length = n→0≤a→a≤s.size →
  To (fun k => spec_ReadManifest.l1 k x0 N (n:Int) s a b segs nx ba bt cf) (MDec x0):=by
 intro m
 induction m with
 | zero =>
  intro n cf a b h1 h2 h3 h4 h5
  refine To.step (fun _ => rfl) ?_
  simp only [spec_ReadManifest.l1]
  refine To.ite (fun _ => To.ite (fun _ => ?_) (fun _ => To.neg (by omega) (sman_fin x0 segs nx ba bt cf hl (by omega)))) (fun _ => ?_)
  ·exact To.bind (To.ev (P:=fun _ => True) (spec_ManifestText_ev segs nx ba bt cf (by omega) (by omega)) trivial) (fun _ _ => To.now (Or.inl rfl))
  ·cases b
   ·simpa using sman_fin x0 segs nx ba bt cf hl (by omega)
   ·simp only [if_true]
    exact To.bind (To.ev (P:=fun _ => True) (spec_ManifestText_ev segs nx ba bt cf (by omega) (by omega)) trivial) (fun _ _ => To.now (Or.inl rfl))
 | succ m ih =>
  intro n cf a b h1 h2 h3 h4 h5
  refine To.step (fun _ => rfl) ?_
  simp only [spec_ReadManifest.l1]
  refine To.ite (fun _ => To.ite (fun _ => ?_) (fun _ => To.ite (fun hc => ?_) (fun _ => sman_fin x0 segs nx ba bt cf hl (by omega)))) (fun _ => ?_)
  ·exact To.bind (To.ev (P:=fun _ => True) (spec_ManifestText_ev segs nx ba bt cf (by omega) (by omega)) trivial) (fun _ _ => To.now (Or.inl rfl))
  ·refine To.bind (To.ev (P:=fun r => r = curNum s a b) (spec_l05Var_ev s a b (by omega)) rfl) (fun r e => ?_)
   subst e
   have p:=curNum_place (s:=s) (a:=a) (bad:=b) h4 h5
   simp only [curNum_text,wrap64_succ (show n≤9223372036854775806 by omega)]
   exact To.pos (by omega) (ih (n + 1) _ _ _ (by omega) (by omega) (by simp [h3]) p.1 p.2)
  ·cases b
   ·simpa using sman_fin x0 segs nx ba bt cf hl (by omega)
   ·simp only [if_true]
    exact To.bind (To.ev (P:=fun _ => True) (spec_ManifestText_ev segs nx ba bt cf (by omega) (by omega)) trivial) (fun _ _ => To.now (Or.inl rfl))
theorem sman_j1 (x0 s:ByteArray) (hs:s.size≤1048576) (segs:List Int) (hl:segs.length≤1048576) (x1 x2 x3 a:Int) (b:Bool) (h0:0≤a) (h1:a≤s.size):To (fun k => spec_ReadManifest.j1 k x0 s a b segs x1 x2 x3) (MDec x0):=by
 refine To.step (fun _ => rfl) ?_
 simp only [spec_ReadManifest.j1]
 refine To.bind (To.ev (P:=fun r => r.2.1 = s∧0≤r.2.2.1∧r.2.2.1≤(s.size:Int)) (spec_l05Var_ev s a b (by omega)) ⟨curNum_text _ _ _,curNum_place h0 h1⟩) (fun r1 p1 => ?_)
 obtain ⟨n1,s1,a1,b1⟩:=r1
 obtain ⟨e1,p1,p1'⟩:=p1
 dsimp only at e1 p1 p1'
 subst e1
 refine To.bind (To.ev (P:=fun r => r.2.1 = s1∧0≤r.2.2.1∧r.2.2.1≤(s1.size:Int)) (spec_l05Var_ev s1 a1 b1 (by omega)) ⟨curNum_text _ _ _,curNum_place p1 p1'⟩) (fun r2 p2 => ?_)
 obtain ⟨n2,s2,a2,b2⟩:=r2
 obtain ⟨e2,p2,p2'⟩:=p2
 dsimp only at e2 p2 p2'
 subst e2
 refine To.bind (To.ev (P:=fun r => r.2.1 = s2∧0≤r.2.2.1∧r.2.2.1≤(s2.size:Int)) (spec_l05Var_ev s2 a2 b2 (by omega)) ⟨curNum_text _ _ _,curNum_place p2 p2'⟩) (fun r3 p3 => ?_)
 obtain ⟨n3,s3,a3,b3⟩:=r3
 obtain ⟨e3,p3,p3'⟩:=p3
 dsimp only at e3 p3 p3'
 subst e3
 refine To.bind (To.ev (P:=fun r => r.2.1 = s3∧0≤r.2.2.1∧r.2.2.1≤(s3.size:Int)) (spec_l05Var_ev s3 a3 b3 (by omega)) ⟨curNum_text _ _ _,curNum_place p3 p3'⟩) (fun r4 p4 => ?_)
 obtain ⟨n4,s4,a4,b4⟩:=r4
 obtain ⟨e4,p4,p4'⟩:=p4
 dsimp only at e4 p4 p4'
 subst e4
 exact sman_l1 x0 s4 hs n4 segs hl n1 n2 n3 5 0 [] a4 b4 (by omega) (by omega) rfl p4 p4'
theorem sman_l0 (x0 s:ByteArray) (hs:s.size≤1048576) (N x1 x2 x3:Int):∀ (m n:Nat) (segs:List Int) (a:Int) (b:Bool),9 - n≤m→n≤9→segs.length = n→0≤a→a≤s.size →
  To (fun k => spec_ReadManifest.l0 k x0 N (n:Int) s a b segs x1 x2 x3) (MDec x0):=by
 intro m
 induction m with
 | zero =>
  intro n segs a b h1 h2 h3 h4 h5
  refine To.step (fun _ => rfl) ?_
  simp only [spec_ReadManifest.l0]
  exact To.ite (fun _ => To.ite (fun _ => sman_j1 x0 s hs segs (by omega) x1 x2 x3 a b h4 h5) (fun _ => To.neg (by omega) (sman_j1 x0 s hs segs (by omega) x1 x2 x3 a b h4 h5))) (fun _ => sman_j1 x0 s hs segs (by omega) x1 x2 x3 a b h4 h5)
 | succ m ih =>
  intro n segs a b h1 h2 h3 h4 h5
  refine To.step (fun _ => rfl) ?_
  simp only [spec_ReadManifest.l0]
  refine To.ite (fun _ => To.ite (fun _ => sman_j1 x0 s hs segs (by omega) x1 x2 x3 a b h4 h5) (fun _ => To.ite (fun hc => ?_) (fun _ => sman_j1 x0 s hs segs (by omega) x1 x2 x3 a b h4 h5))) (fun _ => sman_j1 x0 s hs segs (by omega) x1 x2 x3 a b h4 h5)
  refine To.bind (To.ev (P:=fun r => r = curNum s a b) (spec_l05Var_ev s a b (by omega)) rfl) (fun r e => ?_)
  subst e
  have p:=curNum_place (s:=s) (a:=a) (bad:=b) h4 h5
  simp only [curNum_text,wrap64_succ (show n≤9223372036854775806 by omega)]
  exact To.pos (by omega) (ih (n + 1) _ _ _ (by omega) (by omega) (by simp [h3]) p.1 p.2)
theorem unseal_small (s:ByteArray):(unsealT s).1.size≤20000:=by
 cases hu:unsealT s with
 | mk t b => cases b with
  | true => exact (seal_unseal hu).2
  | false => unfold unsealT at hu;split at hu <;> simp_all;rw [←hu];exact Nat.zero_le _
theorem spec_ReadManifest_to (s:ByteArray) (hs:s.size≤1048576):To (fun k => spec_ReadManifest.f k s) (MDec s):=by
 unfold spec_ReadManifest.f
 refine To.bind (To.ev (P:=fun r => r = unsealT s) (spec_Unsealed_ev s hs) rfl) (fun r e => ?_)
 subst e
 have hz:=unseal_small s
 refine To.bind (To.ev (P:=fun r => r = _) (spec_l05Var_ev (unsealT s).1 0 (!(unsealT s).2) (by omega)) rfl) (fun r e => ?_)
 subst e
 have p:=curNum_place (s:=(unsealT s).1) (a:=0) (bad:=!(unsealT s).2) (by omega) (by omega)
 simp only [curNum_text]
 exact sman_l0 s _ (by omega) _ 0 0 0 9 0 [] _ _ (by omega) (by omega) rfl p.1 p.2
theorem sman_fwd1 (x0 s:ByteArray) (hs:s.size≤1048576) (segs:List Int) (hl:segs.length≤1048576) (nx ba bt:Int) (conf:List Int) (hcl:conf.length≤4) (hm:∀ x∈conf,0≤x∧x≤1000000) (ht:manText segs nx ba bt conf = (x0,true)):∀ (rest:List Int) (n:Nat) (cf:List Int) (a b:Int),cf++rest = conf→cf.length = n→At s a (vl rest) b →
  Ev (fun k => spec_ReadManifest.l1 k x0 (conf.length:Int) (n:Int) s a false segs nx ba bt cf) (segs,nx,ba,bt,conf,true):=by
 intro rest
 induction rest with
 | nil =>
  intro n cf a b h1 h2 h3
  rw [List.append_nil] at h1
  subst h1
  refine Ev.step (fun _ => rfl) ?_
  simp only [spec_ReadManifest.l1]
  refine Ev.neg (by omega) (Ev.bind (spec_ManifestText_ev segs nx ba bt cf (by omega) (by omega)) ?_)
  rw [ht]
  exact Ev.neg (by simp) (Ev.pos rfl (Ev.pos rfl (Ev.now _)))
 | cons x t ih =>
  intro n cf a b h1 h2 h3
  have hlen:cf.length + (t.length + 1) = conf.length:=by rw [←h1];simp
  have hx:=hm x (by rw [←h1];simp)
  rw [vl_cons] at h3
  obtain ⟨q1,q2⟩:=h3.split
  refine Ev.step (fun _ => rfl) ?_
  simp only [spec_ReadManifest.l1,wrap64_succ (show n≤9223372036854775806 by omega)]
  refine Ev.pos (by omega) (Ev.neg (by simp) (Ev.pos (by omega) (Ev.bind (Ev.eq (spec_l05Var_ev s a false (by omega)) (curNum_fwdI q1 hx.1 (by omega))) (Ev.pos (by omega) ?_))))
  exact ih (n + 1) (cf++[x]) _ b (by rw [←h1,List.append_assoc];rfl) (by simp [h2]) q2
theorem sman_fwd0 (x0 s:ByteArray) (hs:s.size≤1048576) (segs:List Int) (hl:segs.length≤8) (hsm:∀ x∈segs,0≤x∧x≤1000000) (nx ba bt:Int) (h1':0≤nx∧nx≤1000000) (h2':0≤ba∧ba≤1000000) (h3':0≤bt∧bt≤1000000) (conf:List Int) (hcl:conf.length≤4) (hm:∀ x∈conf,0≤x∧x≤1000000) (ht:manText segs nx ba bt conf = (x0,true)) (x1 x2 x3:Int):∀ (rest:List Int) (n:Nat) (sg:List Int) (a b:Int),sg++rest = segs→sg.length = n→At s a (vl rest++(varL nx.toNat++(varL ba.toNat++(varL bt.toNat++(varL conf.length++vl conf))))) b →
  Ev (fun k => spec_ReadManifest.l0 k x0 (segs.length:Int) (n:Int) s a false sg x1 x2 x3) (segs,nx,ba,bt,conf,true):=by
 intro rest
 induction rest with
 | nil =>
  intro n sg a b h1 h2 h3
  rw [List.append_nil] at h1
  subst h1
  obtain ⟨q1,h3⟩:=(show At s a (varL nx.toNat++(varL ba.toNat++(varL bt.toNat++(varL conf.length++vl conf)))) b from h3).split
  obtain ⟨q2,h3⟩:=h3.split
  obtain ⟨q3,h3⟩:=h3.split
  obtain ⟨q4,h3⟩:=h3.split
  refine Ev.step (fun _ => rfl) ?_
  simp only [spec_ReadManifest.l0]
  refine Ev.neg (by omega) (Ev.step (fun _ => rfl) ?_)
  simp only [spec_ReadManifest.j1]
  refine Ev.bind (Ev.eq (spec_l05Var_ev s a false (by omega)) (curNum_fwdI q1 h1'.1 (by omega))) (Ev.bind (Ev.eq (spec_l05Var_ev s _ false (by omega)) (curNum_fwdI q2 h2'.1 (by omega))) (Ev.bind (Ev.eq (spec_l05Var_ev s _ false (by omega)) (curNum_fwdI q3 h3'.1 (by omega))) (Ev.bind (Ev.eq (spec_l05Var_ev s _ false (by omega)) (curNum_fwd q4 (by omega))) ?_)))
  exact sman_fwd1 x0 s hs sg (by omega) nx ba bt conf hcl hm ht conf 0 [] _ b rfl rfl h3
 | cons x t ih =>
  intro n sg a b h1 h2 h3
  have hlen:sg.length + (t.length + 1) = segs.length:=by rw [←h1];simp
  have hx:=hsm x (by rw [←h1];simp)
  rw [vl_cons,List.append_assoc] at h3
  obtain ⟨q1,q2⟩:=h3.split
  refine Ev.step (fun _ => rfl) ?_
  simp only [spec_ReadManifest.l0,wrap64_succ (show n≤9223372036854775806 by omega)]
  refine Ev.pos (by omega) (Ev.neg (by simp) (Ev.pos (by omega) (Ev.bind (Ev.eq (spec_l05Var_ev s a false (by omega)) (curNum_fwdI q1 hx.1 (by omega))) (Ev.pos (by omega) ?_))))
  exact ih (n + 1) (sg++[x]) _ b (by rw [←h1,List.append_assoc];rfl) (by simp [h2]) q2
theorem spec_ReadManifest_good (s:ByteArray) (hs:s.size≤1048576) (segs:List Int) (nx ba bt:Int) (conf:List Int) (h:manText segs nx ba bt conf = (s,true)):Ev (fun k => spec_ReadManifest.f k s) (segs,nx,ba,bt,conf,true):=by
 obtain ⟨hk,t,hu,ht,hb⟩:=man_parts h
 obtain ⟨b1,b2,b3,b4,b5,b6,b7⟩:=manOk_bounds hk
 have hw:=At.whole t
 rw [hb] at hw
 obtain ⟨q1,q2⟩:=hw.split
 unfold spec_ReadManifest.f
 refine Ev.bind (Ev.eq (spec_Unsealed_ev s hs) hu) (Ev.bind (Ev.eq (spec_l05Var_ev t 0 false (by omega)) (curNum_fwd q1 (by omega))) ?_)
 exact sman_fwd0 s t (by omega) segs (by omega) (fun x hx => by have:=b6 x hx;omega) nx ba bt (by omega) (by omega) (by omega) conf (by omega) (fun x hx => by have:=b7 x hx;omega) h 0 0 0 segs 0 [] _ _ rfl rfl q2
theorem eachM1_bad (N i:Int) (s:ByteArray) (a:Int) (l:List Int) (x1 x2 x3:Int) (l4:List Int):To (fun k => each_ReadManifest_c1.l0 k N i s a true l x1 x2 x3 l4) (fun r => r = (s,a,true,l,x1,x2,x3,l4)):=by
 refine To.step (fun _ => rfl) ?_
 simp only [each_ReadManifest_c1.l0]
 exact To.ite (fun _ => To.pos (by simp) (To.now rfl)) (fun _ => To.now rfl)
theorem eachM1_loop (s:ByteArray) (hs:s.size≤1000000) (N x1 x2 x3:Int) (l4:List Int):∀ (m:Nat) (i a:Int) (b:Bool) (acc:List Int),0≤a→a≤s.size→(acc.length:Int)≤a + (if b = true then 1 else 0)→(s.size:Int) - a + (if b = true then 0 else 1)≤m→0≤i→i≤2000000000→N≤1000000000 →
  To (fun k => each_ReadManifest_c1.l0 k N i s a b acc x1 x2 x3 l4) (fun r => r.1 = s∧r.2.2.2.1.length≤1048576∧r.2.2.2.2 = (x1,x2,x3,l4)∧(0≤r.2.1∧r.2.1≤(s.size:Int))∧(r.2.2.1 = false→∃ rest,r.2.2.2.1 = acc++rest∧At s a (vl rest) r.2.1∧(i≤N→i + (rest.length:Int) = N))):=by
 intro m
 induction m with
 | zero =>
  intro i a b acc h0 h1 h2 h3 h4 h5 h6
  obtain rfl:b = true:=by cases b <;> simp_all;omega
  simp only [if_true] at h2
  exact To.mono (eachM1_bad _ _ _ _ _ _ _ _ _) (fun r q => by subst q;exact ⟨rfl,by dsimp only;omega,rfl,⟨h0,h1⟩,fun h => by cases h⟩)
 | succ m ih =>
  intro i a b acc h0 h1 h2 h3 h4 h5 h6
  cases b with
  | true =>
   simp only [if_true] at h2
   exact To.mono (eachM1_bad _ _ _ _ _ _ _ _ _) (fun r q => by subst q;exact ⟨rfl,by dsimp only;omega,rfl,⟨h0,h1⟩,fun h => by cases h⟩)
  | false =>
   simp only [Bool.false_eq_true,if_false] at h2 h3
   refine To.step (fun _ => rfl) ?_
   simp only [each_ReadManifest_c1.l0]
   refine To.ite (fun c => To.neg (by simp) ?_) (fun c => To.now ⟨rfl,by dsimp only;omega,rfl,⟨h0,h1⟩,fun _ => ⟨[],by simp,At.nil h0 h1,fun h => by simp;omega⟩⟩)
   refine To.bind (P:=fun r => r = (acc++[(curNum s a false).1],x1,x2,x3,l4,s,(curNum s a false).2.2.1,(curNum s a false).2.2.2)) ?_ (fun r e => ?_)
   ·unfold impl_ReadManifest_c1.f
    refine To.bind (To.ev (P:=fun r => r = curNum s a false) (impl_reader_num_ev s a false (by omega)) rfl) (fun r e => ?_)
    subst e
    simp only [curNum_text]
    exact To.pos (by omega) (To.now rfl)
   ·subst e
    dsimp only
    rw [wrap64_id (by omega) (by omega)]
    have hp:=curNum_place (s:=s) (a:=a) (bad:=false) h0 h1
    cases hb:(curNum s a false).2.2.2 with
    | true => exact To.mono (eachM1_bad _ _ _ _ _ _ _ _ _) (fun r q => by subst q;exact ⟨rfl,by simp;omega,rfl,hp,fun h => by cases h⟩)
    | false =>
     obtain ⟨-,m1,-⟩:=curNum_good' hb
     have m2:=m1.le
     have m3:=varL_pos (curNum s a false).1.toNat
     refine To.mono (ih (i + 1) _ false _ hp.1 hp.2 (by simp;omega) (by simp;omega) (by omega) (by omega) h6) (fun r q => ⟨q.1,q.2.1,q.2.2.1,q.2.2.2.1,fun h => ?_⟩)
     obtain ⟨rest,e1,e2,e3⟩:=q.2.2.2.2 h
     refine ⟨(curNum s a false).1::rest,by rw [e1];simp,?_,fun _ => ?_⟩
     ·rw [vl_cons];exact m1.trans e2
     ·have:=e3 (by omega);simp;omega
theorem eachM1_fwd (s:ByteArray) (hs:s.size≤1048576) (x1 x2 x3:Int) (l4:List Int):∀ (rest:List Int) (i:Nat) (acc:List Int) (a b:Int),(∀ x∈rest,0≤x∧x≤1000000)→i + rest.length≤60→acc.length = i→At s a (vl rest) b →
  Ev (fun k => each_ReadManifest_c1.l0 k ((i + rest.length:Nat):Int) (i:Int) s a false acc x1 x2 x3 l4) (s,b,false,acc++rest,x1,x2,x3,l4):=by
 intro rest
 induction rest with
 | nil =>
  intro i acc a b h1 h2 h3 h4
  refine Ev.step (fun _ => rfl) ?_
  simp only [each_ReadManifest_c1.l0]
  have:=h4.le
  refine Ev.neg (by simp) (Ev.done ?_)
  simp only [vl,List.flatMap_nil,List.length_nil] at this
  rw [List.append_nil,show a = b by omega]
 | cons x t ih =>
  intro i acc a b h1 h2 h3 h4
  rw [List.length_cons] at h2
  rw [vl_cons] at h4
  obtain ⟨q1,h4⟩:=h4.split
  have hx:=h1 x List.mem_cons_self
  have l1:=q1.le
  refine Ev.step (fun _ => rfl) ?_
  simp only [each_ReadManifest_c1.l0,impl_ReadManifest_c1.f,wrap64_succ (show i≤9223372036854775806 by omega)]
  refine Ev.pos (by simp only [List.length_cons];omega) (Ev.neg (by simp) (Ev.bind (a:=(acc++[x],x1,x2,x3,l4,s,a + ((varL x.toNat).length:Int),false)) ?_ ?_))
  ·exact Ev.bind (Ev.eq (impl_reader_num_ev s a false (by omega)) (curNum_fwdI q1 hx.1 (by omega))) (Ev.pos (by omega) (Ev.now _))
  ·have:=ih (i + 1) (acc++[x]) _ b (fun y hy => h1 y (List.mem_cons_of_mem _ hy)) (by omega) (by simp [h3]) h4
   rw [show i + 1 + t.length = i + (x::t).length by simp;omega] at this
   exact Ev.eq this (by simp)
theorem eachM2_bad (N i:Int) (s:ByteArray) (a:Int) (l:List Int) (x1 x2 x3:Int) (l4:List Int):To (fun k => each_ReadManifest_c2.l0 k N i s a true l4 x1 x2 x3 l) (fun r => r = (s,a,true,x1,x2,x3,l,l4)):=by
 refine To.step (fun _ => rfl) ?_
 simp only [each_ReadManifest_c2.l0]
 exact To.ite (fun _ => To.pos (by simp) (To.now rfl)) (fun _ => To.now rfl)
theorem eachM2_loop (s:ByteArray) (hs:s.size≤1000000) (N x1 x2 x3:Int) (l4:List Int):∀ (m:Nat) (i a:Int) (b:Bool) (acc:List Int),0≤a→a≤s.size→(acc.length:Int)≤a + (if b = true then 1 else 0)→(s.size:Int) - a + (if b = true then 0 else 1)≤m→0≤i→i≤2000000000→N≤1000000000 →
  To (fun k => each_ReadManifest_c2.l0 k N i s a b l4 x1 x2 x3 acc) (fun r => r.1 = s∧r.2.2.2.2.2.2.1.length≤1048576∧(r.2.2.2.1 = x1∧r.2.2.2.2.1 = x2∧r.2.2.2.2.2.1 = x3∧r.2.2.2.2.2.2.2 = l4)∧(0≤r.2.1∧r.2.1≤(s.size:Int))∧(r.2.2.1 = false→∃ rest,r.2.2.2.2.2.2.1 = acc++rest∧At s a (vl rest) r.2.1∧(i≤N→i + (rest.length:Int) = N))):=by
 intro m
 induction m with
 | zero =>
  intro i a b acc h0 h1 h2 h3 h4 h5 h6
  obtain rfl:b = true:=by cases b <;> simp_all;omega
  simp only [if_true] at h2
  exact To.mono (eachM2_bad _ _ _ _ _ _ _ _ _) (fun r q => by subst q;exact ⟨rfl,by dsimp only;omega,⟨rfl,rfl,rfl,rfl⟩,⟨h0,h1⟩,fun h => by cases h⟩)
 | succ m ih =>
  intro i a b acc h0 h1 h2 h3 h4 h5 h6
  cases b with
  | true =>
   simp only [if_true] at h2
   exact To.mono (eachM2_bad _ _ _ _ _ _ _ _ _) (fun r q => by subst q;exact ⟨rfl,by dsimp only;omega,⟨rfl,rfl,rfl,rfl⟩,⟨h0,h1⟩,fun h => by cases h⟩)
  | false =>
   simp only [Bool.false_eq_true,if_false] at h2 h3
   refine To.step (fun _ => rfl) ?_
   simp only [each_ReadManifest_c2.l0]
   refine To.ite (fun c => To.neg (by simp) ?_) (fun c => To.now ⟨rfl,by dsimp only;omega,⟨rfl,rfl,rfl,rfl⟩,⟨h0,h1⟩,fun _ => ⟨[],by simp,At.nil h0 h1,fun h => by simp;omega⟩⟩)
   refine To.bind (P:=fun r => r = (x1,x2,x3,acc++[(curNum s a false).1],l4,s,(curNum s a false).2.2.1,(curNum s a false).2.2.2)) ?_ (fun r e => ?_)
   ·unfold impl_ReadManifest_c2.f
    refine To.bind (To.ev (P:=fun r => r = curNum s a false) (impl_reader_num_ev s a false (by omega)) rfl) (fun r e => ?_)
    subst e
    simp only [curNum_text]
    exact To.pos (by omega) (To.now rfl)
   ·subst e
    dsimp only
    rw [wrap64_id (by omega) (by omega)]
    have hp:=curNum_place (s:=s) (a:=a) (bad:=false) h0 h1
    cases hb:(curNum s a false).2.2.2 with
    | true => exact To.mono (eachM2_bad _ _ _ _ _ _ _ _ _) (fun r q => by subst q;exact ⟨rfl,by simp;omega,⟨rfl,rfl,rfl,rfl⟩,hp,fun h => by cases h⟩)
    | false =>
     obtain ⟨-,m1,-⟩:=curNum_good' hb
     have m2:=m1.le
     have m3:=varL_pos (curNum s a false).1.toNat
     refine To.mono (ih (i + 1) _ false _ hp.1 hp.2 (by simp;omega) (by simp;omega) (by omega) (by omega) h6) (fun r q => ⟨q.1,q.2.1,q.2.2.1,q.2.2.2.1,fun h => ?_⟩)
     obtain ⟨rest,e1,e2,e3⟩:=q.2.2.2.2 h
     refine ⟨(curNum s a false).1::rest,by rw [e1];simp,?_,fun _ => ?_⟩
     ·rw [vl_cons];exact m1.trans e2
     ·have:=e3 (by omega);simp;omega
theorem eachM2_fwd (s:ByteArray) (hs:s.size≤1048576) (x1 x2 x3:Int) (l4:List Int):∀ (rest:List Int) (i:Nat) (acc:List Int) (a b:Int),(∀ x∈rest,0≤x∧x≤1000000)→i + rest.length≤60→acc.length = i→At s a (vl rest) b →
  Ev (fun k => each_ReadManifest_c2.l0 k ((i + rest.length:Nat):Int) (i:Int) s a false l4 x1 x2 x3 acc) (s,b,false,x1,x2,x3,acc++rest,l4):=by
 intro rest
 induction rest with
 | nil =>
  intro i acc a b h1 h2 h3 h4
  refine Ev.step (fun _ => rfl) ?_
  simp only [each_ReadManifest_c2.l0]
  have:=h4.le
  refine Ev.neg (by simp) (Ev.done ?_)
  simp only [vl,List.flatMap_nil,List.length_nil] at this
  rw [List.append_nil,show a = b by omega]
 | cons x t ih =>
  intro i acc a b h1 h2 h3 h4
  rw [List.length_cons] at h2
  rw [vl_cons] at h4
  obtain ⟨q1,h4⟩:=h4.split
  have hx:=h1 x List.mem_cons_self
  have l1:=q1.le
  refine Ev.step (fun _ => rfl) ?_
  simp only [each_ReadManifest_c2.l0,impl_ReadManifest_c2.f,wrap64_succ (show i≤9223372036854775806 by omega)]
  refine Ev.pos (by simp only [List.length_cons];omega) (Ev.neg (by simp) (Ev.bind (a:=(x1,x2,x3,acc++[x],l4,s,a + ((varL x.toNat).length:Int),false)) ?_ ?_))
  ·exact Ev.bind (Ev.eq (impl_reader_num_ev s a false (by omega)) (curNum_fwdI q1 hx.1 (by omega))) (Ev.pos (by omega) (Ev.now _))
  ·have:=ih (i + 1) (acc++[x]) _ b (fun y hy => h1 y (List.mem_cons_of_mem _ hy)) (by omega) (by simp [h3]) h4
   rw [show i + 1 + t.length = i + (x::t).length by simp;omega] at this
   exact Ev.eq this (by simp)
theorem impl_ReadManifest_to (s:ByteArray) (hs:s.size≤1000000):To (fun k => impl_ReadManifest.f k s) (MDec s):=by
 unfold impl_ReadManifest.f
 refine To.bind (To.ev (P:=fun r => r = unsealT s) (impl_Unsealed_ev s (by omega)) rfl) (fun r e => ?_)
 subst e
 refine To.ite (fun hok => ?_) (fun _ => To.now (Or.inl rfl))
 cases hu:unsealT s with
 | mk t b =>
 rw [hu] at hok
 obtain rfl:b = true:=hok
 dsimp only
 have hz:=(seal_unseal hu).2
 refine To.bind (P:=fun r => r.1 = t∧r.2.2.2.1.length≤1048576∧r.2.2.2.2 = (0,0,0,[])∧(0≤r.2.1∧r.2.1≤(t.size:Int))∧(r.2.2.1 = false→At t 0 (varL r.2.2.2.1.length++vl r.2.2.2.1) r.2.1)) ?_ (fun r p => ?_)
 ·unfold each_ReadManifest_c1.f
  refine To.bind (To.ev (P:=fun r => r = curNum t 0 false) (impl_reader_num_ev t 0 false (by omega)) rfl) (fun r e => ?_)
  subst e
  simp only [curNum_text]
  have hp:=curNum_place (s:=t) (a:=0) (bad:=false) (by omega) (by omega)
  have hn:=curNum_nonneg t 0 false
  cases hb:(curNum t 0 false).2.2.2
  ·refine To.mono (eachM1_loop t (by omega) (curNum t 0 false).1 0 0 0 [] (t.size + 1) 0 (curNum t 0 false).2.2.1 false [] hp.1 hp.2 (by simp;omega) (by simp;omega) (by omega) (by omega) hn.2) (fun r q => ⟨q.1,q.2.1,q.2.2.1,q.2.2.2.1,fun h => ?_⟩)
   obtain ⟨rest,e1,e2,e3⟩:=q.2.2.2.2 h
   have e3:=e3 hn.1
   obtain ⟨-,m1,-⟩:=curNum_good' hb
   rw [e1,List.nil_append]
   rw [show rest.length = (curNum t 0 false).1.toNat by omega]
   exact m1.trans e2
  ·exact To.mono (eachM1_bad _ _ _ _ _ _ _ _ _) (fun r q => by subst q;exact ⟨rfl,by simp,rfl,hp,fun h => by cases h⟩)
 obtain ⟨s',a1,b1,segs,y1,y2,y3,y4⟩:=r
 obtain ⟨p1,p2,p3,p4,p5⟩:=p
 dsimp only at p1 p2 p3 p4 p5 ⊢
 subst p1
 obtain ⟨rfl,rfl,rfl,rfl⟩:y1 = 0∧y2 = 0∧y3 = 0∧y4 = []:=by simpa using p3
 have num:∀ (a:Int) (b:Bool),0≤a→a≤(s'.size:Int)→To (fun k => impl_reader_num.f k s' a b) (fun r => r.2.1 = s'∧(0≤r.2.2.1∧r.2.2.1≤(s'.size:Int))∧(r.2.2.2 = false→b = false∧At s' a (varL r.1.toNat) r.2.2.1)):=fun a b h0 h1 =>
  To.ev (impl_reader_num_ev s' a b (by omega)) ⟨curNum_text _ _ _,curNum_place h0 h1,fun h => by obtain ⟨q1,q2,-⟩:=curNum_good' h;exact ⟨q1,q2⟩⟩
 refine To.bind (num a1 b1 p4.1 p4.2) (fun r2 q2 => ?_)
 obtain ⟨nx,s2,a2,b2⟩:=r2
 obtain ⟨h2,q2,q2'⟩:=q2
 dsimp only at h2
 subst h2
 refine To.bind (num a2 b2 q2.1 q2.2) (fun r3 q3 => ?_)
 obtain ⟨ba,s3,a3,b3⟩:=r3
 obtain ⟨h3,q3,q3'⟩:=q3
 dsimp only at h3
 subst h3
 refine To.bind (num a3 b3 q3.1 q3.2) (fun r4 q4 => ?_)
 obtain ⟨bt',s4,a4,b4⟩:=r4
 obtain ⟨h4,q4,q4'⟩:=q4
 dsimp only at h4
 subst h4
 dsimp only at q2 q2' q3 q3' q4 q4' ⊢
 refine To.bind (P:=fun r => r.1 = s4∧r.2.2.2.2.2.2.1.length≤1048576∧(r.2.2.2.1 = nx∧r.2.2.2.2.1 = ba∧r.2.2.2.2.2.1 = bt'∧r.2.2.2.2.2.2.2 = segs)∧(0≤r.2.1∧r.2.1≤(s4.size:Int))∧(r.2.2.1 = false→b4 = false∧At s4 a4 (varL r.2.2.2.2.2.2.1.length++vl r.2.2.2.2.2.2.1) r.2.1)) ?_ (fun r p => ?_)
 ·unfold each_ReadManifest_c2.f
  refine To.bind (To.ev (P:=fun r => r = curNum s4 a4 b4) (impl_reader_num_ev s4 a4 b4 (by omega)) rfl) (fun r e => ?_)
  subst e
  simp only [curNum_text]
  have hp:=curNum_place (s:=s4) (a:=a4) (bad:=b4) q4.1 q4.2
  have hn:=curNum_nonneg s4 a4 b4
  cases hb:(curNum s4 a4 b4).2.2.2
  ·refine To.mono (eachM2_loop s4 (by omega) (curNum s4 a4 b4).1 nx ba bt' segs (s4.size + 1) 0 (curNum s4 a4 b4).2.2.1 false [] hp.1 hp.2 (by simp;omega) (by simp;omega) (by omega) (by omega) hn.2) (fun r q => ⟨q.1,q.2.1,q.2.2.1,q.2.2.2.1,fun h => ?_⟩)
   obtain ⟨rest,e1,e2,e3⟩:=q.2.2.2.2 h
   have e3:=e3 hn.1
   obtain ⟨hb4,m1,-⟩:=curNum_good' hb
   refine ⟨hb4,?_⟩
   rw [e1,List.nil_append]
   rw [show rest.length = (curNum s4 a4 b4).1.toNat by omega]
   exact m1.trans e2
  ·exact To.mono (eachM2_bad _ _ _ _ _ _ _ _ _) (fun r q => by subst q;exact ⟨rfl,by simp,⟨rfl,rfl,rfl,rfl⟩,hp,fun h => by cases h⟩)
 obtain ⟨s5,a5,b5,z1,z2,z3,cf,z4⟩:=r
 obtain ⟨p1',p2',p3',p4',p5'⟩:=p
 dsimp only at p1' p2' p3' p4' p5' ⊢
 obtain ⟨rfl,rfl,rfl,rfl⟩:=p3'
 subst p1'
 refine To.call (P:=fun z => z = ((!b5 && a5 == (s5.size:Int)),s5,a5,b5)) ⟨_,impl_reader_done_eq _ _ _,rfl⟩ (fun z hz => ?_)
 subst hz
 refine To.ite (fun hd => To.bind (To.ev (P:=fun z => z = manOk z4 z1 z2 z3 cf) (impl_ManifestOk_ev z4 z1 z2 z3 cf (by omega) (by omega)) rfl) (fun z hz => ?_)) (fun _ => To.now (Or.inl rfl))
 subst hz
 refine To.ite (fun hk => To.now (Or.inr ⟨_,_,_,_,_,rfl,?_⟩)) (fun _ => To.now (Or.inl rfl))
 simp only [Bool.and_eq_true,Bool.not_eq_true',beq_iff_eq] at hd
 obtain ⟨e4,w5⟩:=p5' hd.1
 obtain ⟨e3,w4⟩:=q4' e4
 obtain ⟨e2,w3⟩:=q3' e3
 obtain ⟨e1,w2⟩:=q2' e2
 have w1:=p5 e1
 have hw:=w1.trans (w2.trans (w3.trans (w4.trans w5)))
 rw [hd.2] at hw
 exact man_make hk hu (by rw [hw.all];simp only [List.append_assoc])
theorem impl_ReadManifest_good (s:ByteArray) (hs:s.size≤1048576) (segs:List Int) (nx ba bt:Int) (conf:List Int) (h:manText segs nx ba bt conf = (s,true)):Ev (fun k => impl_ReadManifest.f k s) (segs,nx,ba,bt,conf,true):=by
 obtain ⟨hk,t,hu,ht,hb⟩:=man_parts h
 obtain ⟨b1,b2,b3,b4,b5,b6,b7⟩:=manOk_bounds hk
 have hw:=At.whole t
 rw [hb] at hw
 obtain ⟨q1,hw⟩:=hw.split
 obtain ⟨q2,hw⟩:=hw.split
 obtain ⟨q3,hw⟩:=hw.split
 obtain ⟨q4,hw⟩:=hw.split
 obtain ⟨q5,hw⟩:=hw.split
 obtain ⟨q6,q7⟩:=hw.split
 unfold impl_ReadManifest.f each_ReadManifest_c1.f each_ReadManifest_c2.f
 refine Ev.bind (Ev.eq (impl_Unsealed_ev s hs) hu) (Ev.pos rfl (Ev.bind (a:=(t,_,false,segs,0,0,0,[])) ?_ (Ev.bind (Ev.eq (impl_reader_num_ev t _ false (by omega)) (curNum_fwdI q3 b2.1 (by omega))) (Ev.bind (Ev.eq (impl_reader_num_ev t _ false (by omega)) (curNum_fwdI q4 b3.1 (by omega))) (Ev.bind (Ev.eq (impl_reader_num_ev t _ false (by omega)) (curNum_fwdI q5 b4.1 (by omega))) (Ev.bind (a:=(t,(t.size:Int),false,nx,ba,bt,conf,segs)) ?_ ?_))))))
 ·refine Ev.bind (Ev.eq (impl_reader_num_ev t 0 false (by omega)) (curNum_fwd q1 (by omega))) ?_
  have:=eachM1_fwd t (by omega) 0 0 0 [] segs 0 [] _ _ (fun x hx => by have:=b6 x hx;omega) (by omega) rfl q2
  rw [Nat.zero_add] at this
  exact this
 ·refine Ev.bind (Ev.eq (impl_reader_num_ev t _ false (by omega)) (curNum_fwd q6 (by omega))) ?_
  have:=eachM2_fwd t (by omega) nx ba bt segs conf 0 [] _ _ (fun x hx => by have:=b7 x hx;omega) (by omega) rfl q7
  rw [Nat.zero_add] at this
  exact this
 ·refine Ev.call (impl_reader_done_eq _ _ _) (Ev.pos (by simp) (Ev.bind (Ev.eq (impl_ManifestOk_ev segs nx ba bt conf (by omega) (by omega)) hk) (Ev.pos rfl (Ev.now _))))
def RM (s:ByteArray) (r:Man):Prop:=Ev (fun k => spec_ReadManifest.f k s) r∧Ev (fun k => impl_ReadManifest.f k s) r∧MDec s r
theorem readManifest_both (s:ByteArray) (hs:s.size≤1000000):∃ r,RM s r:=by
 by_cases hex:∃ segs nx ba bt cf,manText segs nx ba bt cf = (s,true)
 ·obtain ⟨segs,nx,ba,bt,cf,h⟩:=hex
  exact ⟨_,spec_ReadManifest_good s (by omega) _ _ _ _ _ h,impl_ReadManifest_good s (by omega) _ _ _ _ _ h,Or.inr ⟨_,_,_,_,_,rfl,h⟩⟩
 ·obtain ⟨r,hr,p⟩:=spec_ReadManifest_to s (by omega)
  obtain ⟨r',hr',p'⟩:=impl_ReadManifest_to s hs
  rcases p with rfl | ⟨_,_,_,_,_,-,h⟩
  ·rcases p' with rfl | ⟨_,_,_,_,_,-,h⟩
   ·exact ⟨_,hr,hr',Or.inl rfl⟩
   ·exact absurd ⟨_,_,_,_,_,h⟩ hex
  ·exact absurd ⟨_,_,_,_,_,h⟩ hex
def mul10 (a:Nat) (x:Int):Nat:=10 * a + (x.toNat - 48)
def fold10 (a:Nat) (l:List Int):Nat:=l.foldl mul10 a
theorem fold10_nil (a:Nat):fold10 a [] = a:=rfl
theorem fold10_cons (a:Nat) (x:Int) (t:List Int):fold10 a (x::t) = fold10 (mul10 a x) t:=by unfold fold10;rw [List.foldl_cons]
theorem fold10_snoc (l:List Int) (a:Nat) (x:Int):fold10 a (l++[x]) = mul10 (fold10 a l) x:=by unfold fold10;rw [List.foldl_append];rfl
theorem mul10_dig (a d:Nat):mul10 a ((48 + d:Nat):Int) = 10 * a + d:=by unfold mul10;rw [Int.toNat_natCast];omega
theorem digT_bytes_big {n:Nat} (h:¬ n < 10):bytesOf (digT n) = bytesOf (digT (n / 10))++[((48 + n % 10:Nat):Int)]:=by
 have:=digT_big h ByteArray.empty
 rw [ByteArray.append_empty,ByteArray.append_empty] at this
 rw [this,bytesOf_append,bytesOf_strOfNums _ (by intro x hx;simp at hx;omega)]
theorem digT_bytes_small {n:Nat} (h:n < 10):bytesOf (digT n) = [((48 + n:Nat):Int)]:=by
 rw [digT_small h,bytesOf_strOfNums _ (by intro x hx;simp at hx;omega),Nat.mod_eq_of_lt h]
theorem digT_fold (n:Nat):fold10 0 (bytesOf (digT n)) = n:=by
 induction n using Nat.strongRecOn with
 | ind n ih =>
  by_cases h:n < 10
  ·rw [digT_bytes_small h,fold10_cons,fold10_nil,mul10_dig];omega
  ·rw [digT_bytes_big h,fold10_snoc,ih _ (by omega),mul10_dig];omega
theorem digT_digits (n:Nat):∀ x∈bytesOf (digT n),48≤x∧x≤57:=by
 induction n using Nat.strongRecOn with
 | ind n ih =>
  intro x hx
  by_cases h:n < 10
  ·rw [digT_bytes_small h] at hx;simp at hx;omega
  ·rw [digT_bytes_big h] at hx
   rcases List.mem_append.1 hx with hx | hx
   ·exact ih _ (by omega) x hx
   ·simp at hx;omega
theorem digT_size3 {n:Nat} (h:n≤999):1≤(digT n).size∧(digT n).size≤3:=by
 rw [←bytesOf_length]
 by_cases h1:n < 10
 ·rw [digT_bytes_small h1];simp
 by_cases h2:n / 10 < 10
 ·rw [digT_bytes_big h1,digT_bytes_small h2];simp
 ·rw [digT_bytes_big h1,digT_bytes_big h2,digT_bytes_small (by omega)];simp
theorem digT_inj {a b:Nat} (h:digT a = digT b):a = b:=by rw [←digT_fold a,h,digT_fold]
theorem pow10_le {i:Nat} (h:i≤10):10 ^ i≤10000000000:=Nat.pow_le_pow_right (n:=10) (by omega) h
theorem spec_ReadDecimal_step (s:ByteArray) (hs:s.size≤10) {n:Nat} {x:Int} {t:List Int} (h:(bytesOf s).drop n = x::t) {a:Nat} (ha:a < 10 ^ n) (hx:48≤x∧x≤57) {r:Int×Bool} (hr:Ev (fun k => spec_ReadDecimal.l0 k s ((mul10 a x:Nat):Int) ((n + 1:Nat):Int)) r):Ev (fun k => spec_ReadDecimal.l0 k s (a:Int) (n:Int)) r:=by
 obtain ⟨h1,h2,h3,-⟩:=bytesOf_drop_lt h
 have:=pow10_le (show n≤10 by omega)
 refine Ev.step (fun _ => rfl) ?_
 simp only [spec_ReadDecimal.l0,h2,wrap64_succ (show n≤9223372036854775806 by omega)]
 rw [wrap64_id (n:=10 * (a:Int)) (by omega) (by omega),wrap64_id (n:=x) (by omega) (by omega),wrap64_id (n:=10 * (a:Int) + x) (by omega) (by omega),wrap64_id (n:=10 * (a:Int) + x - 48) (by omega) (by omega)]
 refine Ev.pos (by omega) (Ev.pos (by omega) (Ev.neg (by omega) (Ev.neg (by omega) ?_)))
 rw [show 10 * (a:Int) + x - 48 = ((mul10 a x:Nat):Int) by unfold mul10;omega]
 exact hr
theorem spec_ReadDecimal_loop (s:ByteArray) (hs:s.size≤10):∀ (rest:List Int) (n a:Nat),(bytesOf s).drop n = rest→a < 10 ^ n→n≤10→To (fun k => spec_ReadDecimal.l0 k s (a:Int) (n:Int)) (fun _ => True):=by
 intro rest
 induction rest with
 | nil =>
  intro n a h ha hn
  have:=bytesOf_drop_nil h
  have:=pow10_le hn
  refine To.step (fun _ => rfl) ?_
  simp only [spec_ReadDecimal.l0]
  refine To.neg (by omega) (To.ite (fun _ => To.now trivial) (fun hc => To.bind (To.ev (P:=fun _ => True) (spec_Decimal_nat a (by omega)) trivial) (fun z _ => To.ite (fun _ => To.now trivial) (fun _ => To.now trivial))))
 | cons x t ih =>
  intro n a h ha hn
  obtain ⟨h1,h2,h3,h4⟩:=bytesOf_drop_lt h
  have hp:=pow10_le hn
  by_cases hx:48≤x∧x≤57
  ·obtain ⟨r,hr,p⟩:=ih (n + 1) (mul10 a x) h3 (by rw [Nat.pow_succ];unfold mul10;omega) (by omega)
   exact To.ev (spec_ReadDecimal_step s hs h ha hx hr) trivial
  ·refine To.step (fun _ => rfl) ?_
   simp only [spec_ReadDecimal.l0,h2]
   refine To.pos (by omega) (To.pos (by omega) (To.ite (fun _ => To.now trivial) (fun _ => To.pos (by omega) (To.now trivial))))
theorem spec_ReadDecimal_to (s:ByteArray):To (fun k => spec_ReadDecimal.f k s) (fun _ => True):=by
 unfold spec_ReadDecimal.f
 exact To.ite (fun _ => To.now trivial) (fun hc => spec_ReadDecimal_loop s (by omega) _ 0 0 rfl (by simp) (by omega))
theorem spec_ReadDecimal_fwd (n:Nat) (hn:n≤999) (s:ByteArray) (hs:s = digT n):∀ (rest:List Int) (i a:Nat),(bytesOf s).drop i = rest→a < 10 ^ i→i≤10→fold10 a rest = n→(∀ x∈rest,48≤x∧x≤57)→Ev (fun k => spec_ReadDecimal.l0 k s (a:Int) (i:Int)) ((n:Int),true):=by
 have h3:=digT_size3 hn
 intro rest
 induction rest with
 | nil =>
  intro i a h ha hi hf hd
  have:=bytesOf_drop_nil h
  rw [fold10_nil] at hf
  subst hf
  refine Ev.step (fun _ => rfl) ?_
  simp only [spec_ReadDecimal.l0]
  refine Ev.neg (by omega) (Ev.neg (by omega) (Ev.bind (spec_Decimal_nat a (by omega)) (Ev.pos (by rw [hs]) (Ev.now _))))
 | cons x t ih =>
  intro i a h ha hi hf hd
  have hx:=hd x List.mem_cons_self
  obtain ⟨h1,h2,h4,-⟩:=bytesOf_drop_lt h
  rw [←hs] at h3
  exact spec_ReadDecimal_step s (by omega) h ha hx (ih (i + 1) _ h4 (by rw [Nat.pow_succ];unfold mul10;omega) (by omega) hf (fun y hy => hd y (List.mem_cons_of_mem _ hy)))
theorem spec_ReadDecimal_good (n:Nat) (hn:n≤999):Ev (fun k => spec_ReadDecimal.f k (digT n)) ((n:Int),true):=by
 have h3:=digT_size3 hn
 unfold spec_ReadDecimal.f
 exact Ev.neg (by omega) (spec_ReadDecimal_fwd n hn _ rfl _ 0 0 rfl (by simp) (by omega) (by rw [List.drop_zero,digT_fold]) (by rw [List.drop_zero];exact digT_digits n))
theorem segT_nat {n:Nat} (h:n≤999):segT (n:Int) = (⟨#[103]⟩:ByteArray)++digT n:=by
 unfold segT
 rw [if_pos (inR_true.2 (by omega)),Int.toNat_natCast]
theorem segT_size {n:Nat} (h:n≤999):(segT (n:Int)).size = 1 + (digT n).size:=by rw [segT_nat h,size_append];rfl
theorem segT_rest {n:Nat} (h:n≤999):(segT (n:Int)).extract 1 (segT (n:Int)).size = digT n:=bytesOf_inj (by
 rw [bytesOf_dropTo,segT_nat h,bytesOf_append]
 rfl)
theorem segT_inj {a b:Nat} (ha:a≤999) (hb:b≤999) (h:segT (a:Int) = segT (b:Int)):a = b:=by
 have h1:=segT_rest ha
 rw [h,segT_rest hb] at h1
 exact (digT_inj h1).symm
theorem segT_out {n:Int} (h:¬ (0≤n∧n≤999)):segT n = ⟨#[]⟩:=by unfold segT;rw [if_neg (fun e => h (inR_true.1 e))]
def segFind (name:ByteArray):Option Nat:=(List.range 1000).find? fun n:Nat => decide (name = segT (n:Int))
theorem segFind_some {name:ByteArray} {n:Nat} (h:segFind name = some n):n≤999∧name = segT (n:Int):=by
 have h1:=List.find?_some (p:=fun n:Nat => decide (name = segT (n:Int))) (l:=List.range 1000) h
 have h2:=List.mem_range.1 (List.mem_of_find?_eq_some (p:=fun n:Nat => decide (name = segT (n:Int))) (l:=List.range 1000) h)
 exact ⟨by omega,of_decide_eq_true h1⟩
theorem segFind_none {name:ByteArray} (h:segFind name = none) (n:Nat) (hn:n≤999):name≠segT (n:Int):=fun e => by
 have:=List.find?_eq_none (p:=fun n:Nat => decide (name = segT (n:Int))) (l:=List.range 1000) |>.1 h n (List.mem_range.2 (by omega))
 exact this (decide_eq_true e)
def segNo (name:ByteArray):Int:=match segFind name with
 | some n => (n:Int)
 | none => -1
theorem segNo_cases (name:ByteArray):(∃ n:Nat,n≤999∧name = segT (n:Int)∧segNo name = n)∨(segNo name = -1∧∀ n:Nat,n≤999→name≠segT (n:Int)):=by
 unfold segNo
 cases hf:segFind name with
 | some m => exact .inl ⟨m,(segFind_some hf).1,(segFind_some hf).2,rfl⟩
 | none => exact .inr ⟨rfl,segFind_none hf⟩
theorem spec_l09Seg_ev (name:ByteArray) (hs:name.size≤1000000):Ev (fun k => spec_l09Seg.f k name) (segNo name):=by
 unfold spec_l09Seg.f
 rcases segNo_cases name with ⟨n,hn,rfl,e⟩ | ⟨e,hno⟩
 ·have h1:=segT_size hn
  have h3:=digT_size3 hn
  rw [e,segT_rest hn]
  refine Ev.neg (by omega) (Ev.pos (by omega) (Ev.bind (spec_ReadDecimal_good n hn) (Ev.pos rfl (Ev.bind (spec_SegName_ev n) (Ev.pos rfl (Ev.now _))))))
 ·rw [e]
  refine Ev.ite (fun _ => Ev.now _) (fun hc => Ev.pos (by omega) ?_)
  obtain ⟨r,hr,-⟩:=spec_ReadDecimal_to (name.extract 1 name.size)
  refine Ev.bind hr (Ev.ite (fun _ => Ev.bind (spec_SegName_ev r.1) (Ev.ite (fun h => ?_) (fun _ => Ev.now _))) (fun _ => Ev.now _))
  exfalso
  have h:=toList_inj.1 h
  by_cases hr1:0≤r.1∧r.1≤999
  ·obtain ⟨m,hm⟩:=Int.eq_ofNat_of_zero_le hr1.1
   rw [hm] at h
   exact hno m (by omega) h.symm
  ·rw [segT_out hr1] at h
   rw [←h] at hc
   exact hc (by decide)
theorem decFrom_snoc (b:UInt8) (d:Nat) (hd:Lib.digitVal b = some d):∀ (l:List UInt8) (acc a:Nat),Lib.decFrom acc l = some a→Lib.decFrom acc (l++[b]) = some (a * 10 + d)
 | [],acc,a,h => by
  simp only [Lib.decFrom,Option.some.injEq] at h
  subst h
  simp [Lib.decFrom,hd]
 | c::t,acc,a,h => by
  simp only [Lib.decFrom,List.cons_append] at h ⊢
  cases hc:Lib.digitVal c with
  | none => rw [hc] at h;cases h
  | some e => rw [hc] at h;exact decFrom_snoc b d hd t _ a h
theorem digitVal_dig {n:Nat} (h:n < 10):Lib.digitVal (UInt8.ofNat (48 + n)) = some n:=by
 unfold Lib.digitVal
 have e:(UInt8.ofNat (48 + n)).toNat = 48 + n:=by rw [UInt8.toNat_ofNat'];omega
 rw [e,if_pos (by omega)]
 congr 1;omega
theorem decFrom_digits (n:Nat):Lib.decFrom 0 (Lib.decDigits n) = some n:=by
 induction n using Nat.strongRecOn with
 | ind n ih =>
  by_cases h:n < 10
  ·rw [digits_small h];simp only [Lib.decFrom,digitVal_dig h,Nat.zero_mul,Nat.zero_add]
  ·rw [digits_big h,decFrom_snoc _ _ (digitVal_dig (by omega)) _ _ _ (ih _ (by omega))]
   congr 1;omega
theorem digits_head (n:Nat):∃ b t,Lib.decDigits n = b::t∧48≤b.toNat∧b.toNat≤57:=by
 induction n using Nat.strongRecOn with
 | ind n ih =>
  by_cases h:n < 10
  ·refine ⟨_,[],digits_small h,?_⟩
   rw [UInt8.toNat_ofNat'];omega
  ·obtain ⟨b,t,e,hb⟩:=ih (n / 10) (by omega)
   exact ⟨b,t++[UInt8.ofNat (48 + n % 10)],by rw [digits_big h,e];rfl,hb⟩
theorem atoi_digits (n:Nat):Lib.atoi (Lib.decDigits n) = some (n:Int):=by
 obtain ⟨b,t,e,h1,h2⟩:=digits_head n
 have hd:=decFrom_digits n
 rw [e] at hd ⊢
 have n1:(b == 45) = false:=by
  rw [beq_eq_false_iff_ne]
  intro e
  subst e
  simp at h1
 have n2:(b == 43) = false:=by
  rw [beq_eq_false_iff_ne]
  intro e
  subst e
  simp at h1
 simp only [Lib.atoi,n1,n2,Bool.false_eq_true,if_false,Lib.decNat,List.isEmpty_cons,hd,Option.map_some]
theorem impl_ReadDecimal_some (s:ByteArray) (hs:s.size≤18):∃ r,impl_ReadDecimal.f s = some r:=by
 unfold impl_ReadDecimal.f strconv_Atoi.f atoiO
 rw [if_pos hs]
 cases h:Lib.atoi s.data.toList with
 | none => exact ⟨_,rfl⟩
 | some n =>
  have hb:=Lib.atoi_bound h (by rw [data_length];omega)
  dsimp only
  rw [Option.bind_some,if_pos rfl]
  unfold impl_Decimal.f
  rw [if_pos (by omega),if_pos (by omega),Option.bind_some]
  split
  ·rw [impl_within_eq,Option.bind_some]
   split
   ·exact ⟨_,rfl⟩
   ·exact ⟨_,rfl⟩
  ·exact ⟨_,rfl⟩
theorem impl_ReadDecimal_good (n:Nat) (hn:n≤999):impl_ReadDecimal.f (digT n) = some ((n:Int),true):=by
 have h3:=digT_size3 hn
 unfold impl_ReadDecimal.f strconv_Atoi.f atoiO
 rw [if_pos (by omega)]
 have:Lib.atoi (digT n).data.toList = some (n:Int):=by
  rw [show (digT n).data.toList = Lib.decDigits n from rfl,atoi_digits]
 rw [this]
 dsimp only
 rw [Option.bind_some,if_pos rfl]
 unfold impl_Decimal.f
 rw [if_pos (by omega),if_pos (by omega),Option.bind_some,itoa_nat,if_pos rfl,impl_within_eq,Option.bind_some,if_pos (inR_true.2 (by omega))]
theorem cutG (name:ByteArray):strings_CutPrefix.f name (⟨#[103]⟩:ByteArray) = some (if name.extract 0 1 = ⟨#[103]⟩ then (name.extract 1 name.size,true) else (name,false)):=by
 have hz:(⟨#[103]⟩:ByteArray).size = 1:=rfl
 unfold strings_CutPrefix.f internal_stringslite_CutPrefix.f internal_stringslite_HasPrefix.f
 by_cases h:name.size≥1
 ·rw [hz,if_pos (by omega),if_pos (by omega),if_pos (by omega),Option.bind_some]
  by_cases e:name.extract 0 1 = ⟨#[103]⟩
  ·rw [if_pos e]
   rw [if_pos (by show ((name.extract 0 1).toList == _) = true;rw [e];simp),if_pos (by omega),if_pos (by omega)]
   rfl
  ·rw [if_neg e]
   rw [if_neg (by show ¬ ((name.extract 0 1).toList == _) = true;rw [beq_iff_eq,toList_inj];exact e)]
   rfl
 ·have hn:name.size = 0:=by omega
  have e:¬ name.extract 0 1 = ⟨#[103]⟩:=by
   intro e
   have:(name.extract 0 1).size = 1:=by rw [e];rfl
   rw [ByteArray.size_extract] at this
   omega
  rw [hz,if_neg (by omega),Option.bind_some,if_neg e]
  rfl
theorem impl_isSegName_eq (name:ByteArray) (hs:name.size≤18):impl_isSegName.f name = some (decide (0≤segNo name)):=by
 unfold impl_isSegName.f
 rw [cutG,Option.bind_some]
 rcases segNo_cases name with ⟨n,hn,rfl,e⟩ | ⟨e,hno⟩
 ·have hx:(segT (n:Int)).extract 0 1 = ⟨#[103]⟩:=bytesOf_inj (by
   rw [bytesOf_extract,segT_nat hn,bytesOf_append];rfl)
  rw [if_pos hx,segT_rest hn]
  dsimp only
  rw [impl_ReadDecimal_good n hn,Option.bind_some,if_pos rfl,if_pos rfl,impl_SegName_eq,Option.bind_some,e]
  simp
 ·rw [e]
  have hd:decide ((0:Int)≤-1) = false:=rfl
  rw [hd]
  split
  ·rename_i hx
   have hz:name.size≥1:=by
    have:(name.extract 0 1).size = 1:=by rw [hx];rfl
    rw [ByteArray.size_extract] at this
    omega
   dsimp only
   obtain ⟨r,hr⟩:=impl_ReadDecimal_some (name.extract 1 name.size) (by rw [ByteArray.size_extract];omega)
   rw [hr,Option.bind_some,if_pos rfl]
   split
   ·rw [impl_SegName_eq,Option.bind_some]
    refine congrArg some ?_
    rw [beq_eq_false_iff_ne]
    intro h
    have h:=toList_inj.1 h
    by_cases hr1:0≤r.1∧r.1≤999
    ·obtain ⟨m,hm⟩:=Int.eq_ofNat_of_zero_le hr1.1
     rw [hm] at h
     exact hno m (by omega) h.symm
    ·rw [segT_out hr1] at h
     rw [←h] at hz
     exact absurd hz (by decide)
   ·rfl
  ·dsimp only
   obtain ⟨r,hr⟩:=impl_ReadDecimal_some name hs
   rw [hr,Option.bind_some,if_neg (by simp)]
theorem spec_FileAt_ev (l:List S122) (hd:diskOk l = true) (key:ByteArray):Ev (fun k => spec_FileAt.f k l key) (textAt key l,stands (nameCmp key) l):=by
 obtain ⟨hl,hu⟩:=diskOk_up hd
 unfold spec_FileAt.f textAt
 refine Ev.bind (spec_l03At_ev l (by omega) hu key) (Ev.bind (spec_DiskOk_ev l (by omega)) ?_)
 rw [hd]
 refine Ev.pos rfl ?_
 unfold placeAt
 cases hs:stands (nameCmp key) l
 ·exact Ev.pos (by simp) (Ev.done (by simp))
 ·obtain ⟨x,hx,-⟩:=stands_at hs
  obtain ⟨h1,-⟩:=List.getElem?_eq_some_iff.1 hx
  rw [if_pos rfl,if_pos rfl]
  exact Ev.neg (by omega) (Ev.pos (by omega) (Ev.pos (by omega) (Ev.now _)))
theorem filesIn_mem:∀ (l:List S122) (p:Option ByteArray),filesIn p l = true→∀ x∈l,(1≤x.f0.size∧x.f0.size≤12)∧x.f1.size≤20000
 | [],_,_,x,hx => by cases hx
 | y::t,p,h,x,hx => by
  simp only [filesIn,Bool.and_eq_true,decide_eq_true_iff] at h
  obtain ⟨h1,h2,-,h4⟩:=h
  rcases List.mem_cons.1 hx with rfl | hx
  ·have:=inR_true.1 h1;omega
  ·exact filesIn_mem t _ h4 x hx
theorem diskOk_mem {l:List S122} (h:diskOk l = true):∀ x∈l,(1≤x.f0.size∧x.f0.size≤12)∧x.f1.size≤20000:=by
 simp only [diskOk,Bool.and_eq_true] at h
 exact filesIn_mem l none h.2
theorem textAt_size {l:List S122} (h:diskOk l = true) (key:ByteArray):(textAt key l).size≤20000:=by
 unfold textAt
 split
 ·rename_i hs
  obtain ⟨x,hx,-⟩:=stands_at hs
  obtain ⟨h1,h2⟩:=List.getElem?_eq_some_iff.1 hx
  rw [rdT122_get h1] at hx
  injection hx with hx
  rw [hx]
  exact (diskOk_mem h x (List.mem_of_getElem? (by rw [List.getElem?_eq_getElem h1,h2]))).2
 ·exact Nat.zero_le _
theorem idxF_loop (s0 s1:ByteArray) (xs:List Int) (hx:xs.length≤1048576):∀ (rest:List Int) (n:Nat),xs.drop n = rest→To (fun k => slices_IndexFunc_int_int.l0 k xs (xs.length:Int) (n:Int) s0 s1) (fun r => r.2 = (s0,s1)∧decide (r.1≥0) = rest.any fun x => decide (segT x = s0)):=by
 intro rest
 induction rest with
 | nil =>
  intro n h
  have:=drop_nil h
  refine To.step (fun _ => rfl) ?_
  simp only [slices_IndexFunc_int_int.l0]
  exact To.neg (by omega) (To.now ⟨rfl,by simp⟩)
 | cons x t ih =>
  intro n h
  obtain ⟨h1,-,h3⟩:=drop_cons h
  refine To.step (fun _ => rfl) ?_
  simp only [slices_IndexFunc_int_int.l0,drop_rd h,wrap64_succ (show n≤9223372036854775806 by omega)]
  refine To.pos (by omega) (To.pos (by omega) (To.pos (by omega) (To.call (P:=fun r => r = ((segT x).toList == s0.toList,s0,s1)) ⟨_,by unfold impl_cleaning_c1.f;rw [impl_SegName_eq];rfl,rfl⟩ (fun r e => ?_))))
  subst e
  dsimp only
  refine To.ite (fun hc => To.now ⟨rfl,?_⟩) (fun hc => To.mono (ih (n + 1) h3) (fun r q => ⟨q.1,by rw [q.2,List.any_cons,decide_eq_false (fun e => hc (by rw [e];simp)),Bool.false_or]⟩))
  rw [List.any_cons,decide_eq_true (toList_inj.1 (by simpa using hc)),Bool.true_or,decide_eq_true (by dsimp only;omega)]
theorem containsF_ev (s0 s1:ByteArray) (xs:List Int) (hx:xs.length≤1048576):Ev (fun k => slices_ContainsFunc_int_int.f k xs s0 s1) (xs.any (fun x => decide (segT x = s0)),s0,s1):=by
 obtain ⟨r,hr,h1,h2⟩:=idxF_loop s0 s1 xs hx xs 0 rfl
 unfold slices_ContainsFunc_int_int.f slices_IndexFunc_int_int.f
 refine Ev.bind hr (Ev.done ?_)
 rw [h2,h1]
def dropB (segs:List Int) (f:S122):Bool:=decide (0≤segNo f.f0) && !segs.contains (segNo f.f0)
def dropRaw (f:S122):S119:=⟨4,f.f0,⟨#[]⟩,⟨#[]⟩⟩
def dropsOf (segs:List Int) (l:List S122):List S119:=(l.filter (dropB segs)).map dropRaw
theorem dropsOf_cons (segs:List Int) (x:S122) (t:List S122):dropsOf segs (x::t) = (if dropB segs x = true then [dropRaw x] else [])++dropsOf segs t:=by
 unfold dropsOf
 rw [List.filter_cons]
 split <;> rfl
theorem any_contains {segs:List Int} (hs:∀ x∈segs,0≤x∧x≤999) {name:ByteArray} (hn:0≤segNo name):(segs.any fun x => decide (segT x = name)) = segs.contains (segNo name):=by
 rcases segNo_cases name with ⟨n,h1,rfl,e⟩ | ⟨e,-⟩
 ·rw [e,Bool.eq_iff_iff,List.any_eq_true,List.contains_iff_mem]
  constructor
  ·rintro ⟨x,hx,hd⟩
   have hb:=hs x hx
   obtain ⟨m,rfl⟩:=Int.eq_ofNat_of_zero_le hb.1
   have:=segT_inj (by omega) h1 (of_decide_eq_true hd)
   rw [←this];exact hx
  ·intro h
   exact ⟨_,h,decide_eq_true rfl⟩
 ·omega
theorem impl_cleaning_loop (l:List S122) (hd:diskOk l = true) (segs:List Int) (hl:segs.length≤8) (hs:∀ x∈segs,0≤x∧x≤999) (x1 x2 x3:Int) (x4:List Int):∀ (rest:List S122) (n:Nat) (acc:List S119),l.drop n = rest→acc.length≤n + 1→Ev (fun k => impl_cleaning.l0 k acc l (l.length:Int) (n:Int) segs x1 x2 x3 x4) (acc++dropsOf segs rest):=by
 have hll:=(diskOk_up hd).1
 intro rest
 induction rest with
 | nil =>
  intro n acc h ha
  have:=drop_nil h
  refine Ev.step (fun _ => rfl) ?_
  simp only [impl_cleaning.l0]
  exact Ev.neg (by omega) (Ev.done (by simp [dropsOf]))
 | cons x t ih =>
  intro n acc h ha
  obtain ⟨h1,-,h3⟩:=drop_cons h
  have hm:=diskOk_mem hd x (List.mem_of_mem_drop (h ▸ List.mem_cons_self))
  refine Ev.step (fun _ => rfl) ?_
  simp only [impl_cleaning.l0,rdT122_drop h,wrap64_succ (show n≤9223372036854775806 by omega)]
  refine Ev.pos (by omega) (Ev.pos (by omega) (Ev.pos (by omega) (Ev.call (impl_isSegName_eq x.f0 (by omega)) (Ev.ite (fun hc => ?_) (fun hc => ?_)))))
  ·have hc:=of_decide_eq_true hc
   refine Ev.bind (containsF_ev x.f0 x.f1 segs (by omega)) ?_
   rw [any_contains hs hc]
   refine Ev.ite (fun hi => Ev.eq (ih (n + 1) acc h3 (by omega)) ?_) (fun hi => Ev.pos (by omega) (Ev.eq (ih (n + 1) _ h3 (by simp;omega)) ?_))
   ·rw [dropsOf_cons,if_neg (by unfold dropB;simp only [Bool.and_eq_true,Bool.not_eq_true'];intro e;dsimp only at hi;rw [hi] at e;exact absurd e.2 (by simp))];simp
   ·rw [dropsOf_cons,if_pos (by unfold dropB;rw [decide_eq_true hc,Bool.true_and];dsimp only at hi;rw [Bool.eq_false_iff.2 hi];rfl)];simp [dropRaw]
  ·refine Ev.eq (ih (n + 1) acc h3 (by omega)) ?_
   rw [dropsOf_cons,if_neg (by unfold dropB;rw [Bool.eq_false_iff.2 hc];simp)];simp
def newDrop (l:List S122):List S119:=if stands (nameCmp ⟨#[109,43]⟩) l = true then [⟨4,⟨#[109,43]⟩,⟨#[]⟩,⟨#[]⟩⟩] else []
theorem impl_cleaning_ev (l:List S122) (hd:diskOk l = true) (segs:List Int) (hl:segs.length≤8) (hs:∀ x∈segs,0≤x∧x≤999) (x1 x2 x3:Int) (x4:List Int):Ev (fun k => impl_cleaning.f k l segs x1 x2 x3 x4) (newDrop l++dropsOf segs l):=by
 unfold impl_cleaning.f newDrop
 refine Ev.bind (impl_FileAt_ev l hd _) ?_
 cases h:stands (nameCmp ⟨#[109,43]⟩) l
 ·exact Ev.neg (by simp) (Ev.eq (impl_cleaning_loop l hd segs hl hs x1 x2 x3 x4 l 0 [] rfl (by simp)) (by simp))
 ·exact Ev.pos rfl (Ev.pos (by omega) (Ev.eq (impl_cleaning_loop l hd segs hl hs x1 x2 x3 x4 l 0 _ rfl (by simp)) (by simp)))
def endOn (rb:ByteArray→Int×List S162×Bool):Int→List ByteArray→Int
 | a,[] => a
 | a,c::t => if (rb c).2.2 = true then endOn rb (a + ((frame c).1.size:Int)) t else a
def goodT (rb:ByteArray→Int×List S162×Bool):List ByteArray→List ByteArray
 | [] => []
 | c::t => if (rb c).2.2 = true then c::goodT rb t else []
def frSum:Int→List ByteArray→Int
 | a,[] => a
 | a,c::t => frSum (a + ((frame c).1.size:Int)) t
theorem endOn_good (rb:ByteArray→Int×List S162×Bool):∀ (l:List ByteArray) (a:Int),endOn rb a l = frSum a (goodT rb l)
 | [],_ => rfl
 | c::t,a => by
  rw [endOn,goodT]
  split
  ·rw [frSum,endOn_good rb t]
  ·rfl
theorem goodT_sub (rb:ByteArray→Int×List S162×Bool):∀ (l:List ByteArray),(goodT rb l).length≤l.length∧∀ c∈goodT rb l,c∈l
 | [] => ⟨Nat.le_refl _,fun c h => h⟩
 | c::t => by
  have ih:=goodT_sub rb t
  rw [goodT]
  split
  ·exact ⟨by simp only [List.length_cons];omega,fun d hd => by rcases List.mem_cons.1 hd with rfl | hd;exact List.mem_cons_self;exact List.mem_cons_of_mem _ (ih.2 d hd)⟩
  ·exact ⟨Nat.zero_le _,fun d hd => by cases hd⟩
theorem scanOn_texts (rb:ByteArray→Int×List S162×Bool) (seg:Int):∀ (l:List ByteArray) (a:Int) (r:List S145×List ByteArray×Int),(scanOn rb seg a l r).2.1 = r.2.1++goodT rb l
 | [],a,r => by simp [scanOn,goodT]
 | c::t,a,r => by
  rw [scanOn,goodT]
  split
  ·rw [scanOn_texts rb seg t];simp
  ·simp
theorem frSum_ge:∀ (l:List ByteArray) (a:Int),a≤frSum a l∧frSum a l≤a + 9009 * (l.length:Int)
 | [],a => by simp [frSum]
 | c::t,a => by
  have:=frame_le8 c
  have:=frSum_ge t (a + ((frame c).1.size:Int))
  rw [frSum,List.length_cons]
  omega
theorem impl_batchesOf_loop2 (rb:ByteArray→Int×List S162×Bool) (hrb:∀ c,c.size≤9000→RB c (rb c)) (list:List ByteArray) (hl:list.length≤20000) (hc:∀ c∈list,c.size≤9000):∀ (rest:List ByteArray) (n:Nat) (a:Int) (acc:List S113),list.drop n = rest→acc.length = n→0≤a→a≤9009 * (n:Int) →
  Ev (fun k => impl_batchesOf.l0 k acc a list (list.length:Int) (n:Int)) (acc++piecesOf rb a rest,endOn rb a rest):=by
 intro rest
 induction rest with
 | nil =>
  intro n a acc h ha h0 h1
  have:=drop_nil h
  refine Ev.step (fun _ => rfl) ?_
  simp only [impl_batchesOf.l0]
  exact Ev.neg (by omega) (Ev.done (by simp [piecesOf,endOn]))
 | cons x r ih =>
  intro n a acc h ha h0 h1
  obtain ⟨h2,-,h3⟩:=drop_cons h
  have hm:=hc x (List.mem_of_mem_drop (h ▸ List.mem_cons_self))
  have hf:=frame_le8 x
  obtain ⟨-,q2,q3⟩:=hrb x hm
  refine Ev.step (fun _ => rfl) ?_
  simp only [impl_batchesOf.l0,rdOf_drop h,wrap64_succ (show n≤9223372036854775806 by omega)]
  refine Ev.pos (by omega) (Ev.pos (by omega) (Ev.pos (by omega) (Ev.bind q2 ?_)))
  rw [piecesOf,endOn]
  refine Ev.ite (fun c => ?_) (fun c => Ev.done (by rw [if_neg c,if_neg c];simp))
  rw [if_pos c,if_pos c]
  refine Ev.bind (impl_Frame_ev x (by omega)) ?_
  rw [wrap64_id (n:=a + ((frame x).1.size:Int)) (by omega) (by omega),wrap64_id (n:=a + ((frame x).1.size:Int) - (x.size:Int)) (by omega) (by omega)]
  refine Ev.pos (by omega) (Ev.eq (ih (n + 1) (a + ((frame x).1.size:Int)) _ h3 (by simp [ha]) (by omega) (by omega)) ?_)
  simp
theorem impl_batchesOf_ev (rb:ByteArray→Int×List S162×Bool) (hrb:∀ c,c.size≤9000→RB c (rb c)) (s:ByteArray):Ev (fun k => impl_batchesOf.f k s) (piecesOf rb 0 (unframe s).1,endOn rb 0 (unframe s).1):=by
 unfold impl_batchesOf.f
 obtain ⟨u1,u2⟩:=unframe_bounds s
 exact Ev.bind (impl_Unframe_evB s) (Ev.eq (impl_batchesOf_loop2 rb hrb _ u1 u2 _ 0 0 [] rfl rfl (by omega) (by omega)) (by simp))
theorem unfStep_six {s:ByteArray} {a b:Int} {c:ByteArray} (h:unfStep s a = some (c,b)):a + 6≤b:=by
 unfold unfStep at h
 split at h
 ·cases h
 split at h
 ·cases h
 split at h
 ·rename_i h1 h2 h3
  simp only [Option.some.injEq,Prod.mk.injEq] at h
  obtain ⟨rfl,rfl⟩:=h
  have hr:readVar s a = ((readVar s a).1,(readVar s a).2.1,true):=by
   have:(readVar s a).2.2 = true:=by cases hb:(readVar s a).2.2 <;> simp_all
   rw [←this]
  obtain ⟨p1,p2,p3,p4,p5,p6,-,-⟩:=readVar_true hr
  have h4:=h3.1
  unfold frame at h4
  split at h4
  ·rename_i h5
   have h5:=inR_true.1 h5
   rw [ByteArray.size_extract] at h5
   omega
  ·simp at h4
 ·cases h
theorem unfr_six (s:ByteArray):∀ (m:Nat) (acc:List ByteArray) (a:Int),6 * (acc.length:Int)≤a→6 * ((unfr s m acc a).1.length:Int)≤(unfr s m acc a).2
 | 0,acc,a,h => h
 | m + 1,acc,a,h => by
  rw [unfr]
  cases hs:unfStep s a with
  | none => exact h
  | some x =>
   obtain ⟨c,b⟩:=x
   have:=unfStep_six hs
   exact unfr_six s m (acc++[c]) b (by simp only [List.length_append,List.length_singleton];omega)
theorem unframe_few (s:ByteArray):(unframe s).1.length≤3334:=by
 unfold unframe
 split
 ·simp
 ·obtain ⟨⟨-,h1⟩,-,-⟩:=unfr_bounds s (s.size + 1) [] 0 (by omega) (by omega) (by simp) (fun c hc => by cases hc)
  have:=unfr_six s (s.size + 1) [] 0 (by simp)
  omega
theorem unfr_acc (s:ByteArray):∀ (m:Nat) (acc:List ByteArray) (a:Int),∃ r,(unfr s m acc a).1 = acc++r
 | 0,acc,a => ⟨[],by rw [unfr,List.append_nil]⟩
 | m + 1,acc,a => by
  rw [unfr]
  cases unfStep s a with
  | none => exact ⟨[],by simp⟩
  | some x =>
   obtain ⟨r,hr⟩:=unfr_acc s m (acc++[x.1]) x.2
   exact ⟨x.1::r,by dsimp only;rw [hr];simp⟩
abbrev RBf:=ByteArray→Int×List S162×Bool
def segScan (rb:RBf) (d:List S122) (n:Int):List S145×List ByteArray×Int:=scanOn rb n 0 (unframe (textAt (segT n) d)).1 ([],[],-1)
def segEnd (rb:RBf) (d:List S122) (n:Int):Int:=endOn rb 0 (unframe (textAt (segT n) d)).1
theorem segScan_len (rb:RBf) (hrb:∀ c,c.size≤9000→RB c (rb c)) (d:List S122) (n:Int):(segScan rb d n).1.length≤200040∧(segScan rb d n).2.1.length≤3334:=by
 have h:=scanOn_len rb (fun c h => (hrb c h).2.2) n (unframe (textAt (segT n) d)).1 0 ([],[],-1) (unframe_bounds _).2
 have:=unframe_few (textAt (segT n) d)
 unfold segScan
 simp only [List.length_nil,Nat.zero_add] at h
 omega
theorem segEnd_bounds (rb:RBf) (d:List S122) (n:Int):0≤segEnd rb d n∧segEnd rb d n≤1000000000:=by
 unfold segEnd
 rw [endOn_good]
 have:=frSum_ge (goodT rb (unframe (textAt (segT n) d)).1) 0
 have:=(goodT_sub rb (unframe (textAt (segT n) d)).1).1
 have:=unframe_few (textAt (segT n) d)
 omega
def openOn (rb:RBf) (d:List S122):List Int→List S145→Int→Option (List S145×Int)
 | [],sp,st => some (sp,st)
 | n::t,sp,st => if segEnd rb d n < ((textAt (segT n) d).size:Int)∧t≠[] then none else openOn rb d t (sp++(segScan rb d n).1) (mx st (segScan rb d n).2.2)
def endOf (rb:RBf) (d:List S122):List Int→Int→Int
 | [],e => e
 | n::t,_ => endOf rb d t (segEnd rb d n)
abbrev SLoad:=List Int×Int×Int×Int×List Int×List S145×Int×Int×Int
def noLoad (c:Int):SLoad:=([],0,0,0,[],[],0,0,c)
theorem spec_l09Load_l2 (rb:RBf) (d:List S122) (segs:List Int) (m1 m2 m3:Int) (m4 s0:List Int) (s1 s2 s3:Int) (s4:List Int) (dir:List S145) (st:Int) (i:Nat) (hi:i < segs.length) (hsl:segs.length≤8) (text:ByteArray) (sp:List S145) (hsp:sp.length≤200040) (hdir:dir.length≤2000000) (texts:List ByteArray) (htl:texts.length≤20000) (hts:∀ c∈texts,c.size≤9000) (stamp:Int) (r:SLoad):∀ (rest:List ByteArray) (n:Nat) (e:Int),texts.drop n = rest→0≤e→e≤9009 * (n:Int) →
  (if frSum e rest < (text.size:Int)∧i + 1 < segs.length then noLoad 4 = r else Ev (fun k => spec_l09Load.l1 k (frSum e rest) ((i + 1:Nat):Int) d segs m1 m2 m3 m4 s0 s1 s2 s3 s4 (sp.foldl layS dir) (mx st stamp)) r) →
  Ev (fun k => spec_l09Load.l2 k e (i:Int) text sp texts stamp (n:Int) d segs m1 m2 m3 m4 s0 s1 s2 s3 s4 dir st) r:=by
 intro rest
 induction rest with
 | nil =>
  intro n e h h0 h1 hr
  have:=drop_nil h
  rw [frSum] at hr
  have fin:∀ b:Bool,(b = true↔e < (text.size:Int)∧i + 1 < segs.length)→Ev (fun k => spec_l09Load.j4 k e (i:Int) sp stamp b d segs m1 m2 m3 m4 s0 s1 s2 s3 s4 dir st) r:=by
   intro b hb
   refine Ev.step (fun _ => rfl) ?_
   simp only [spec_l09Load.j4]
   refine Ev.ite (fun hc => ?_) (fun hc => ?_)
   ·rw [if_pos (hb.1 hc)] at hr
    exact Ev.done hr
   ·rw [if_neg (fun x => hc (hb.2 x))] at hr
    refine Ev.bind (show Ev (fun k => spec_l08More.f k dir sp) (sp.foldl layS dir) by
     unfold spec_l08More.f
     simp only [Option.bind_some,List.nil_append]
     exact Ev.pos (by simp;omega) (spec_l08More_l0 sp (by omega) sp 0 dir rfl (by omega))) ?_
    rw [wrap64_succ (show i≤9223372036854775806 by omega)]
    unfold mx at hr
    refine Ev.ite (fun h5 => ?_) (fun h5 => ?_)
    ·rw [if_pos (show st < stamp by omega)] at hr;exact hr
    ·rw [if_neg (show ¬ st < stamp by omega)] at hr;exact hr
  refine Ev.step (fun _ => rfl) ?_
  simp only [spec_l09Load.l2,wrap64_succ (show i≤9223372036854775806 by omega)]
  refine Ev.neg (by omega) (Ev.ite (fun hc => fin _ ?_) (fun hc => fin _ ?_))
  ·rw [decide_eq_true_iff];omega
  ·simp;omega
 | cons x t ih =>
  intro n e h h0 h1 hr
  obtain ⟨h2,-,h3⟩:=drop_cons h
  have hm:=hts x (List.mem_of_mem_drop (h ▸ List.mem_cons_self))
  have hf:=frame_le8 x
  rw [frSum] at hr
  refine Ev.step (fun _ => rfl) ?_
  simp only [spec_l09Load.l2,rdOf_drop h,wrap64_succ (show n≤9223372036854775806 by omega)]
  refine Ev.pos (by omega) (Ev.pos (by omega) (Ev.bind (spec_Frame_ev x (by omega)) ?_))
  rw [wrap64_id (by omega) (by omega)]
  exact ih (n + 1) _ h3 (by omega) (by omega) hr
theorem spec_l09Load_l1 (rb:RBf) (hrb:∀ c,c.size≤9000→RB c (rb c)) (d:List S122) (hd:diskOk d = true) (segs:List Int) (hsl:segs.length≤8) (m1 m2 m3:Int) (m4:List Int):∀ (rest:List Int) (n:Nat) (e:Int) (sp:List S145) (st:Int),segs.drop n = rest→n≤segs.length→sp.length≤200040 * n →
  Ev (fun k => spec_l09Load.l1 k e (n:Int) d segs m1 m2 m3 m4 segs m1 m2 m3 m4 (sp.foldl layS []) st) (match openOn rb d rest sp st with
   | none => noLoad 4
   | some (sp',st') => if dirOk (sp'.foldl layS []) = true then (segs,m1,m2,m3,m4,sp'.foldl layS [],st',endOf rb d rest e,0) else noLoad 4):=by
 obtain ⟨hdl,hdu⟩:=diskOk_up hd
 intro rest
 induction rest with
 | nil =>
  intro n e sp st h hn hl
  have:=drop_nil h
  have hll:=lay_len sp []
  simp only [List.length_nil] at hll
  refine Ev.step (fun _ => rfl) ?_
  simp only [spec_l09Load.l1,openOn,endOf]
  refine Ev.neg (by omega) (Ev.bind (spec_DirOk_ev _ (by omega)) ?_)
  exact Ev.ite (fun hc => Ev.done (by rw [if_pos hc])) (fun hc => Ev.done (by rw [if_neg hc];rfl))
 | cons x t ih =>
  intro n e sp st h hn hl
  obtain ⟨h1,-,h3⟩:=drop_cons h
  have hll:=lay_len sp []
  simp only [List.length_nil] at hll
  obtain ⟨l1,l2⟩:=segScan_len rb hrb d x
  have ht:=textAt_size hd (segT x)
  refine Ev.step (fun _ => rfl) ?_
  simp only [spec_l09Load.l1,drop_rd h]
  refine Ev.pos (by omega) (Ev.pos (by omega) (Ev.bind (spec_SegName_ev x) (Ev.bind (spec_l03Text_ev d (by omega) hdu _) (Ev.bind (spec_ScanSeg_ev rb (fun c h => ⟨(hrb c h).1,(hrb c h).2.2⟩) (textAt (segT x) d) x) ?_))))
  have e2:(segScan rb d x).2.1 = goodT rb (unframe (textAt (segT x) d)).1:=by unfold segScan;rw [scanOn_texts];simp
  have e3:frSum 0 (segScan rb d x).2.1 = segEnd rb d x:=by rw [e2,segEnd,endOn_good]
  refine spec_l09Load_l2 rb d segs m1 m2 m3 m4 segs m1 m2 m3 m4 (sp.foldl layS []) st n h1 hsl _ (segScan rb d x).1 (by omega) (by omega) (segScan rb d x).2.1 (by omega) (fun c hc => ?_) (segScan rb d x).2.2 _ (segScan rb d x).2.1 0 0 rfl (by omega) (by omega) ?_
  ·rw [e2] at hc
   exact (unframe_bounds _).2 c ((goodT_sub rb _).2 c hc)
  ·rw [e3,openOn,endOf]
   have hne:t≠[]↔n + 1 < segs.length:=by
    rw [←h3]
    constructor
    ·intro hh
     rcases Nat.lt_or_ge (n + 1) segs.length with h5 | h5
     ·exact h5
     ·exact absurd (List.drop_eq_nil_of_le h5) hh
    ·intro hh he
     have:=drop_nil he;omega
   by_cases hc:segEnd rb d x < ((textAt (segT x) d).size:Int)∧t≠[]
   ·rw [if_pos ⟨hc.1,hne.1 hc.2⟩,if_pos hc]
   ·rw [if_neg (fun h5 => hc ⟨h5.1,hne.2 h5.2⟩),if_neg hc,←List.foldl_append]
    exact ih (n + 1) (segEnd rb d x) (sp++(segScan rb d x).1) _ h3 (by omega) (by rw [List.length_append];omega)
theorem spec_l09Load_l0 (d:List S122) (hd:diskOk d = true) (segs:List Int) (m1 m2 m3:Int) (m4:List Int) (hsl:segs.length≤8) (r:SLoad) (hr:segs.all (fun n => stands (nameCmp (segT n)) d) = true→Ev (fun k => spec_l09Load.l1 k 0 0 d segs m1 m2 m3 m4 segs m1 m2 m3 m4 [] m2) r) (hn:segs.all (fun n => stands (nameCmp (segT n)) d) = false→r = noLoad 3):∀ (rest:List Int) (n:Nat),segs.drop n = rest→segs.all (fun n => stands (nameCmp (segT n)) d) = rest.all (fun n => stands (nameCmp (segT n)) d) →
  Ev (fun k => spec_l09Load.l0 k (n:Int) d segs m1 m2 m3 m4 segs m1 m2 m3 m4 m2) r:=by
 obtain ⟨hdl,hdu⟩:=diskOk_up hd
 intro rest
 induction rest with
 | nil =>
  intro n h ha
  have:=drop_nil h
  refine Ev.step (fun _ => rfl) ?_
  simp only [spec_l09Load.l0]
  exact Ev.neg (by omega) (hr (by rw [ha];rfl))
 | cons x t ih =>
  intro n h ha
  obtain ⟨h1,-,h3⟩:=drop_cons h
  refine Ev.step (fun _ => rfl) ?_
  simp only [spec_l09Load.l0,drop_rd h,wrap64_succ (show n≤9223372036854775806 by omega)]
  refine Ev.pos (by omega) (Ev.pos (by omega) (Ev.bind (spec_SegName_ev x) (Ev.bind (spec_l03At_ev d (by omega) hdu _) ?_)))
  unfold placeAt
  rw [List.all_cons] at ha
  cases hs:stands (nameCmp (segT x)) d
  ·rw [hs,Bool.false_and] at ha
   exact Ev.pos (by simp) (Ev.done (hn ha).symm)
  ·rw [hs,Bool.true_and] at ha
   exact Ev.neg (by simp) (ih (n + 1) h3 ha)
abbrev RMf:=ByteArray→Man
def manAt (rm:RMf) (d:List S122):Man:=rm (textAt ⟨#[109]⟩ d)
def loadOf (rb:RBf) (rm:RMf) (d:List S122):SLoad :=
 if diskOk d = true then
  if (stands (nameCmp ⟨#[109]⟩) d && (manAt rm d).2.2.2.2.2) = true then
   if (manAt rm d).1.all (fun n => stands (nameCmp (segT n)) d) = true then
    match openOn rb d (manAt rm d).1 [] (manAt rm d).2.2.1 with
    | none => noLoad 4
    | some (sp',st') => if dirOk (sp'.foldl layS []) = true then ((manAt rm d).1,(manAt rm d).2.1,(manAt rm d).2.2.1,(manAt rm d).2.2.2.1,(manAt rm d).2.2.2.2.1,sp'.foldl layS [],st',endOf rb d (manAt rm d).1 0,0) else noLoad 4
   else noLoad 3
  else noLoad 2
 else noLoad 1
theorem man_good {rm:RMf} (hrm:∀ s,s.size≤1000000→RM s (rm s)) {d:List S122} (hd:diskOk d = true) (h:(manAt rm d).2.2.2.2.2 = true):manOk (manAt rm d).1 (manAt rm d).2.1 (manAt rm d).2.2.1 (manAt rm d).2.2.2.1 (manAt rm d).2.2.2.2.1 = true:=by
 have ht:=textAt_size hd ⟨#[109]⟩
 obtain ⟨-,-,hm⟩:=hrm (textAt ⟨#[109]⟩ d) (by omega)
 rcases hm with hm | ⟨_,_,_,_,_,hm,hk⟩
 ·unfold manAt at h;rw [hm] at h;cases h
 ·unfold manAt;rw [hm];exact (man_parts hk).1
theorem spec_l09Load_ev (rb:RBf) (hrb:∀ c,c.size≤9000→RB c (rb c)) (rm:RMf) (hrm:∀ s,s.size≤1000000→RM s (rm s)) (d:List S122) (hl:d.length≤1048576):Ev (fun k => spec_l09Load.f k d) (loadOf rb rm d):=by
 unfold spec_l09Load.f loadOf
 refine Ev.bind (spec_DiskOk_ev d hl) ?_
 cases hd:diskOk d
 ·exact Ev.neg (by simp) (Ev.done (by simp [noLoad]))
 have ht:=textAt_size hd ⟨#[109]⟩
 refine Ev.pos rfl (Ev.bind (spec_FileAt_ev d hd _) (Ev.bind (hrm (textAt ⟨#[109]⟩ d) (by omega)).1 ?_))
 rw [if_pos rfl]
 change Ev (fun k => if stands (nameCmp ⟨#[109]⟩) d = true then spec_l09Load.j0 k (!(manAt rm d).2.2.2.2.2) d (manAt rm d).1 (manAt rm d).2.1 (manAt rm d).2.2.1 (manAt rm d).2.2.2.1 (manAt rm d).2.2.2.2.1 else spec_l09Load.j0 k true d (manAt rm d).1 (manAt rm d).2.1 (manAt rm d).2.2.1 (manAt rm d).2.2.2.1 (manAt rm d).2.2.2.2.1) _
 cases hs:stands (nameCmp ⟨#[109]⟩) d
 ·refine Ev.neg (by simp) (Ev.step (fun _ => rfl) ?_)
  simp only [spec_l09Load.j0]
  exact Ev.pos trivial (Ev.done (by simp [noLoad]))
 refine Ev.pos rfl (Ev.step (fun _ => rfl) ?_)
 simp only [spec_l09Load.j0]
 cases hm:(manAt rm d).2.2.2.2.2
 ·exact Ev.pos (by simp) (Ev.done (by simp [noLoad]))
 have hk:=man_good hrm hd hm
 obtain ⟨b1,-,-,-,-,-,-⟩:=manOk_bounds hk
 rw [Bool.true_and,if_pos rfl]
 refine Ev.neg (by simp) (spec_l09Load_l0 d hd (manAt rm d).1 _ _ _ _ (by omega) _ (fun ha => ?_) (fun ha => ?_) (manAt rm d).1 0 rfl rfl)
 ·rw [if_pos ha]
  exact spec_l09Load_l1 rb hrb d hd (manAt rm d).1 (by omega) _ _ _ _ (manAt rm d).1 0 0 [] _ rfl (by omega) (by simp)
 ·rw [if_neg (by rw [ha];simp)]
abbrev OS:=List Int×Int×Int×Int×List Int×List S145×Int×List S119×Int
def noShelf (c:Int):OS:=([],0,0,0,[],[],0,[],c)
def lastOf (segs:List Int):Int:=rd segs ((segs.length:Int) - 1)
def putRaw (d:List S122) (n e:Int):List S119:=if e < ((textAt (segT n) d).size:Int) then [⟨1,segT n,⟨#[]⟩,(textAt (segT n) d).extract 0 e.toNat⟩] else []
def shelfOf (rb:RBf) (rm:RMf) (d:List S122):OS :=
 if (loadOf rb rm d).2.2.2.2.2.2.2.2 = 0 then
  ((loadOf rb rm d).1,(loadOf rb rm d).2.1,(loadOf rb rm d).2.2.1,(loadOf rb rm d).2.2.2.1,(loadOf rb rm d).2.2.2.2.1,(loadOf rb rm d).2.2.2.2.2.1,(loadOf rb rm d).2.2.2.2.2.2.1,newDrop d++dropsOf (loadOf rb rm d).1 d++putRaw d (lastOf (loadOf rb rm d).1) (loadOf rb rm d).2.2.2.2.2.2.2.1,0)
 else noShelf (loadOf rb rm d).2.2.2.2.2.2.2.2
theorem endOf_bounds (rb:RBf) (d:List S122):∀ (l:List Int) (e:Int),0≤e→e≤1000000000→0≤endOf rb d l e∧endOf rb d l e≤1000000000
 | [],e,h0,h1 => ⟨h0,h1⟩
 | n::t,e,_,_ => by
  have:=segEnd_bounds rb d n
  rw [endOf]
  exact endOf_bounds rb d t _ (by omega) (by omega)
theorem load_good {rb:RBf} {rm:RMf} (hrm:∀ s,s.size≤1000000→RM s (rm s)) {d:List S122} (h:(loadOf rb rm d).2.2.2.2.2.2.2.2 = 0):diskOk d = true∧manOk (loadOf rb rm d).1 (loadOf rb rm d).2.1 (loadOf rb rm d).2.2.1 (loadOf rb rm d).2.2.2.1 (loadOf rb rm d).2.2.2.2.1 = true∧dirOk (loadOf rb rm d).2.2.2.2.2.1 = true∧0≤(loadOf rb rm d).2.2.2.2.2.2.2.1∧(loadOf rb rm d).2.2.2.2.2.2.2.1≤1000000000:=by
 unfold loadOf at h ⊢
 split at h
 ·rename_i hd
  rw [if_pos hd]
  split at h
  ·rename_i hs
   rw [if_pos hs]
   split at h
   ·rename_i ha
    rw [if_pos ha]
    split at h
    ·simp [noLoad] at h
    ·rename_i sp' st' ho
     split at h
     ·rename_i hk
      rw [if_pos hk]
      simp only [Bool.and_eq_true] at hs
      have:=endOf_bounds rb d (manAt rm d).1 0 (by omega) (by omega)
      exact ⟨hd,man_good hrm hd hs.2,hk,this.1,this.2⟩
     ·simp [noLoad] at h
   ·simp [noLoad] at h
  ·simp [noLoad] at h
 ·simp [noLoad] at h
theorem spec_OpenShelf_loop (d:List S122) (hd:diskOk d = true) (e:Int) (he0:0≤e) (he1:e≤1000000000) (segs:List Int) (hs1:1≤segs.length) (hs8:segs.length≤8) (m1 m2 m3:Int) (m4:List Int) (dir:List S145) (st:Int):∀ (rest:List S122) (n:Nat) (acc:List S119),d.drop n = rest→n≤d.length→acc.length≤n + 1 →
  Ev (fun k => spec_OpenShelf.l0 k e acc (n:Int) d segs m1 m2 m3 m4 dir st) (segs,m1,m2,m3,m4,dir,st,acc++dropsOf segs rest++putRaw d (lastOf segs) e,0):=by
 obtain ⟨hdl,hdu⟩:=diskOk_up hd
 intro rest
 induction rest with
 | nil =>
  intro n acc h hn ha
  have:=drop_nil h
  refine Ev.step (fun _ => rfl) ?_
  simp only [spec_OpenShelf.l0]
  rw [wrap64_id (n:=(segs.length:Int) - 1) (by omega) (by omega)]
  change Ev (fun k => if (n:Int) < (d.length:Int) then _ else if 0≤(segs.length:Int) - 1 then if (segs.length:Int) - 1 < (segs.length:Int) then (spec_SegName.f k (lastOf segs)).bind _ else none else none) _
  refine Ev.neg (by omega) (Ev.pos (by omega) (Ev.pos (by omega) (Ev.bind (spec_SegName_ev _) (Ev.bind (spec_l03Text_ev d (by omega) hdu _) ?_))))
  unfold putRaw
  refine Ev.ite (fun hc => Ev.pos (by omega) (Ev.pos (by unfold lastOf at *;omega) (Ev.pos (by omega) (Ev.done ?_)))) (fun hc => Ev.done ?_)
  ·rw [if_pos hc];simp [dropsOf]
  ·rw [if_neg hc];simp [dropsOf]
 | cons x t ih =>
  intro n acc h hn ha
  obtain ⟨h1,-,h3⟩:=drop_cons h
  have hm:=diskOk_mem hd x (List.mem_of_mem_drop (h ▸ List.mem_cons_self))
  refine Ev.step (fun _ => rfl) ?_
  simp only [spec_OpenShelf.l0,rdT122_drop h,wrap64_succ (show n≤9223372036854775806 by omega)]
  refine Ev.pos (by omega) (Ev.pos (by omega) (Ev.bind (spec_l09Seg_ev x.f0 (by omega)) (Ev.ite (fun hc => ?_) (fun hc => ?_))))
  ·refine Ev.bind (spec_l09In_ev segs _ (by omega)) (Ev.ite (fun hi => Ev.eq (ih (n + 1) acc h3 (by omega) (by omega)) ?_) (fun hi => Ev.pos (by omega) (Ev.eq (ih (n + 1) _ h3 (by omega) (by simp;omega)) ?_)))
   ·rw [dropsOf_cons,if_neg (by unfold dropB;simp only [Bool.and_eq_true,Bool.not_eq_true'];intro e;rw [hi] at e;exact absurd e.2 (by simp))];simp
   ·rw [dropsOf_cons,if_pos (by unfold dropB;rw [decide_eq_true hc,Bool.true_and,Bool.eq_false_iff.2 hi];rfl)];simp [dropRaw]
  ·refine Ev.eq (ih (n + 1) acc h3 (by omega) (by omega)) ?_
   rw [dropsOf_cons,if_neg (by unfold dropB;rw [decide_eq_false hc];simp)];simp
theorem spec_OpenShelf_ev (rb:RBf) (hrb:∀ c,c.size≤9000→RB c (rb c)) (rm:RMf) (hrm:∀ s,s.size≤1000000→RM s (rm s)) (d:List S122) (hl:d.length≤1048576):Ev (fun k => spec_OpenShelf.f k d) (shelfOf rb rm d):=by
 unfold spec_OpenShelf.f shelfOf
 refine Ev.bind (spec_l09Load_ev rb hrb rm hrm d hl) (Ev.call rfl ?_)
 refine Ev.ite (fun hc => ?_) (fun hc => Ev.done (by rw [if_neg hc];rfl))
 rw [if_pos hc]
 obtain ⟨g1,g2,g3,g4,g5⟩:=load_good hrm hc
 obtain ⟨hdl,hdu⟩:=diskOk_up g1
 obtain ⟨b1,-,-,-,-,-,-⟩:=manOk_bounds g2
 refine Ev.bind (spec_l03At_ev d hl hdu _) ?_
 unfold placeAt newDrop
 have go:∀ acc:List S119,acc.length≤1→Ev (fun k => spec_OpenShelf.j0 k (loadOf rb rm d).2.2.2.2.2.2.2.1 acc d (loadOf rb rm d).1 (loadOf rb rm d).2.1 (loadOf rb rm d).2.2.1 (loadOf rb rm d).2.2.2.1 (loadOf rb rm d).2.2.2.2.1 (loadOf rb rm d).2.2.2.2.2.1 (loadOf rb rm d).2.2.2.2.2.2.1) ((loadOf rb rm d).1,(loadOf rb rm d).2.1,(loadOf rb rm d).2.2.1,(loadOf rb rm d).2.2.2.1,(loadOf rb rm d).2.2.2.2.1,(loadOf rb rm d).2.2.2.2.2.1,(loadOf rb rm d).2.2.2.2.2.2.1,acc++dropsOf (loadOf rb rm d).1 d++putRaw d (lastOf (loadOf rb rm d).1) (loadOf rb rm d).2.2.2.2.2.2.2.1,0):=fun acc ha => by
  refine Ev.step (fun _ => rfl) ?_
  simp only [spec_OpenShelf.j0]
  exact spec_OpenShelf_loop d g1 _ g4 g5 _ (by omega) (by omega) _ _ _ _ _ _ d 0 acc rfl (by omega) (by omega)
 cases hs:stands (nameCmp ⟨#[109,43]⟩) d
 ·exact Ev.neg (by simp) (Ev.eq (go [] (by simp)) (by simp))
 ·exact Ev.pos (by simp) (Ev.pos (by simp) (Ev.eq (go _ (by simp)) (by simp)))
def tailPut (rb:RBf) (d:List S122):List Int→List S119
 | [] => []
 | [n] => putRaw d n (segEnd rb d n)
 | _::m::t => tailPut rb d (m::t)
theorem tailPut_last (rb:RBf) (d:List S122):∀ (l:List Int) (e:Int),l≠[]→tailPut rb d l = putRaw d (lastOf l) (endOf rb d l e)
 | [],_,h => absurd rfl h
 | [n],e,_ => by simp [tailPut,lastOf,endOf,rd]
 | a::m::t,e,_ => by
  rw [tailPut,endOf,tailPut_last rb d (m::t) (segEnd rb d a) (by simp)]
  congr 1
  unfold lastOf rd
  simp only [List.length_cons]
  rw [show (((t.length + 1 + 1:Nat):Int) - 1).toNat = t.length + 1 by omega,show (((t.length + 1:Nat):Int) - 1).toNat = t.length by omega,List.getD_cons_succ]
theorem impl_OpenShelf_l1 (rb:RBf) (hrb:∀ c,c.size≤9000→RB c (rb c)) (d:List S122) (hd:diskOk d = true) (segs:List Int) (hsl:segs.length≤8) (nx ba bt:Int) (cf:List Int):∀ (rest:List Int) (n:Nat) (raws:List S119) (sp:List S145) (st:Int),segs.drop n = rest→n≤segs.length→raws.length + rest.length≤1000→sp.length≤200040 * n →
  Ev (fun k => impl_OpenShelf.l1 k raws sp segs (segs.length:Int) (n:Int) d [] 0 0 0 [] [] 0 nx ba bt cf nx ba bt [] st) (match openOn rb d rest sp st with
   | none => noShelf 4
   | some (sp',st') => if dirOk (sp'.foldl layS []) = true then (segs,nx,ba,bt,cf,sp'.foldl layS [],st',raws++tailPut rb d rest,0) else noShelf 4):=by
 intro rest
 induction rest with
 | nil =>
  intro n raws sp st h hn hr hl
  have:=drop_nil h
  refine Ev.step (fun _ => rfl) ?_
  simp only [impl_OpenShelf.l1,openOn,tailPut]
  refine Ev.neg (by omega) (Ev.bind (impl_DirMore_ev [] sp (by simp only [List.length_nil];omega)) ?_)
  unfold dirMore
  rw [if_pos (show dirOk ([]:List S145) = true from rfl)]
  cases hk:dirOk (sp.foldl layS [])
  ·exact Ev.neg (by simp) (Ev.done (by simp [noShelf]))
  ·exact Ev.pos (by simp) (Ev.done (by simp))
 | cons x t ih =>
  intro n raws sp st h hn hr hl
  obtain ⟨h1,-,h3⟩:=drop_cons h
  obtain ⟨l1,l2⟩:=segScan_len rb hrb d x
  have ht:=textAt_size hd (segT x)
  have hb:=segEnd_bounds rb d x
  have hne:t≠[]↔n + 1 < segs.length:=by
   rw [←h3]
   constructor
   ·intro hh
    rcases Nat.lt_or_ge (n + 1) segs.length with h5 | h5
    ·exact h5
    ·exact absurd (List.drop_eq_nil_of_le h5) hh
   ·intro hh he
    have:=drop_nil he;omega
  refine Ev.step (fun _ => rfl) ?_
  simp only [impl_OpenShelf.l1,drop_rd h,wrap64_succ (show n≤9223372036854775806 by omega)]
  rw [wrap64_id (n:=(segs.length:Int) - 1) (by omega) (by omega)]
  refine Ev.pos (by omega) (Ev.pos (by omega) (Ev.pos (by omega) (Ev.call (impl_SegName_eq x) (Ev.bind (impl_FileAt_ev d hd _) (Ev.bind (impl_ScanSeg_ev rb hrb (textAt (segT x) d) x) (Ev.bind (impl_batchesOf_ev rb hrb (textAt (segT x) d)) ?_))))))
  have hS:scanOn rb x 0 (unframe (textAt (segT x) d)).1 ([],[],-1) = segScan rb d x:=rfl
  have hE:endOn rb 0 (unframe (textAt (segT x) d)).1 = segEnd rb d x:=rfl
  rw [hS,hE]
  dsimp only
  rw [List.length_cons] at hr
  have go:∀ raws':List S119,raws'.length + t.length≤1000→Ev (fun k => impl_OpenShelf.l1 k raws' (sp++(segScan rb d x).1) segs (segs.length:Int) ((n + 1:Nat):Int) d [] 0 0 0 [] [] 0 nx ba bt cf nx ba bt [] (mx st (segScan rb d x).2.2)) (match openOn rb d t (sp++(segScan rb d x).1) (mx st (segScan rb d x).2.2) with
   | none => noShelf 4
   | some (sp',st') => if dirOk (sp'.foldl layS []) = true then (segs,nx,ba,bt,cf,sp'.foldl layS [],st',raws'++tailPut rb d t,0) else noShelf 4):=fun raws' hr' => ih (n + 1) raws' _ _ h3 (by omega) hr' (by rw [List.length_append];omega)
  rw [openOn]
  by_cases hc:segEnd rb d x < ((textAt (segT x) d).size:Int)
  ·by_cases hcn:t≠[]
   ·rw [if_pos ⟨hc,hcn⟩]
    have:=hne.1 hcn
    exact Ev.pos hc (Ev.pos (by omega) (Ev.now _))
   ·have hcn:=Decidable.not_not.1 hcn
    have:¬ n + 1 < segs.length:=fun h5 => hne.2 h5 hcn
    rw [if_neg (fun h5 => h5.2 hcn)]
    refine Ev.pos hc (Ev.neg (by omega) (Ev.pos hc (Ev.call (impl_SegName_eq x) (Ev.pos (by omega) (Ev.pos (by omega) (Ev.pos (by omega) (Ev.pos (by omega) (Ev.eq (go _ (by simp;omega)) ?_))))))))
    subst hcn
    simp only [openOn,tailPut,List.append_nil,List.append_assoc]
    unfold putRaw
    rw [if_pos hc]
  ·rw [if_neg (fun h5 => hc h5.1)]
   refine Ev.neg hc (Ev.neg hc (Ev.pos (by omega) (Ev.eq (go raws (by omega)) ?_)))
   have e:tailPut rb d (x::t) = tailPut rb d t:=by
    cases t with
    | nil => simp only [tailPut];unfold putRaw;rw [if_neg hc]
    | cons y t => rw [tailPut]
   rw [e]
theorem impl_OpenShelf_l0 (d:List S122) (hd:diskOk d = true) (segs:List Int) (nx ba bt:Int) (cf:List Int) (hsl:segs.length≤8) (r:OS) (hr:segs.all (fun n => stands (nameCmp (segT n)) d) = true→Ev (fun k => (impl_cleaning.f k d segs nx ba bt cf).bind fun t5 => impl_OpenShelf.l1 k t5 [] segs (segs.length:Int) 0 d [] 0 0 0 [] [] 0 nx ba bt cf nx ba bt [] ba) r) (hn:segs.all (fun n => stands (nameCmp (segT n)) d) = false→r = noShelf 3):∀ (rest:List Int) (n:Nat),segs.drop n = rest→segs.all (fun n => stands (nameCmp (segT n)) d) = rest.all (fun n => stands (nameCmp (segT n)) d) →
  Ev (fun k => impl_OpenShelf.l0 k segs (segs.length:Int) (n:Int) d [] 0 0 0 [] [] 0 nx ba bt cf) r:=by
 intro rest
 induction rest with
 | nil =>
  intro n h ha
  have:=drop_nil h
  refine Ev.step (fun _ => rfl) ?_
  simp only [impl_OpenShelf.l0]
  exact Ev.neg (by omega) (hr (by rw [ha];rfl))
 | cons x t ih =>
  intro n h ha
  obtain ⟨h1,-,h3⟩:=drop_cons h
  refine Ev.step (fun _ => rfl) ?_
  simp only [impl_OpenShelf.l0,drop_rd h,wrap64_succ (show n≤9223372036854775806 by omega)]
  refine Ev.pos (by omega) (Ev.pos (by omega) (Ev.pos (by omega) (Ev.call (impl_SegName_eq x) (Ev.bind (impl_FileAt_ev d hd _) ?_))))
  rw [List.all_cons] at ha
  dsimp only
  cases hs:stands (nameCmp (segT x)) d
  ·rw [hs,Bool.false_and] at ha
   exact Ev.neg (by simp) (Ev.done (hn ha).symm)
  ·rw [hs,Bool.true_and] at ha
   exact Ev.pos rfl (ih (n + 1) h3 ha)
theorem dropsOf_len (segs:List Int) (l:List S122):(dropsOf segs l).length≤l.length:=by
 unfold dropsOf
 rw [List.length_map]
 exact List.length_filter_le _ _
theorem newDrop_len (l:List S122):(newDrop l).length≤1:=by unfold newDrop;split <;> simp
theorem impl_OpenShelf_ev (rb:RBf) (hrb:∀ c,c.size≤9000→RB c (rb c)) (rm:RMf) (hrm:∀ s,s.size≤1000000→RM s (rm s)) (d:List S122) (hl:d.length≤1048576):Ev (fun k => impl_OpenShelf.f k d) (shelfOf rb rm d):=by
 unfold impl_OpenShelf.f shelfOf loadOf
 refine Ev.bind (impl_DiskOk_ev d hl) ?_
 cases hd:diskOk d
 ·exact Ev.neg (by simp) (Ev.done (by simp [noLoad,noShelf]))
 have ht:=textAt_size hd ⟨#[109]⟩
 refine Ev.pos rfl (Ev.bind (impl_FileAt_ev d hd _) (Ev.bind (hrm (textAt ⟨#[109]⟩ d) (by omega)).2.1 ?_))
 rw [if_pos (show true = true from rfl)]
 change Ev (fun k => if stands (nameCmp ⟨#[109]⟩) d = true then (if (manAt rm d).2.2.2.2.2 = true then impl_OpenShelf.l0 k (manAt rm d).1 ((manAt rm d).1.length:Int) 0 d [] 0 0 0 [] [] 0 (manAt rm d).2.1 (manAt rm d).2.2.1 (manAt rm d).2.2.2.1 (manAt rm d).2.2.2.2.1 else some (noShelf 2)) else some (noShelf 2)) _
 cases hs:stands (nameCmp ⟨#[109]⟩) d
 ·exact Ev.neg (by simp) (Ev.done (by simp [noLoad,noShelf]))
 refine Ev.pos rfl ?_
 cases hm:(manAt rm d).2.2.2.2.2
 ·exact Ev.neg (by simp) (Ev.done (by simp [noLoad,noShelf]))
 have hk:=man_good hrm hd hm
 obtain ⟨b1,-,-,-,-,b6,-⟩:=manOk_bounds hk
 have hdl:=(diskOk_up hd).1
 have hnd:=newDrop_len d
 have hdo:=dropsOf_len (manAt rm d).1 d
 rw [Bool.true_and,if_pos (show true = true from rfl)]
 refine Ev.pos rfl (impl_OpenShelf_l0 d hd (manAt rm d).1 _ _ _ _ (by omega) _ (fun ha => ?_) (fun ha => ?_) (manAt rm d).1 0 rfl rfl)
 ·rw [if_pos ha]
  refine Ev.bind (impl_cleaning_ev d hd (manAt rm d).1 (by omega) b6 _ _ _ _) (Ev.eq (impl_OpenShelf_l1 rb hrb d hd (manAt rm d).1 (by omega) _ _ _ _ (manAt rm d).1 0 _ [] _ rfl (by omega) (by rw [List.length_append];omega) (by simp)) ?_)
  cases ho:openOn rb d (manAt rm d).1 [] (manAt rm d).2.2.1 with
  | none => simp [noLoad,noShelf]
  | some z =>
   obtain ⟨sp',st'⟩:=z
   dsimp only
   split
   ·rename_i hdk
    rw [tailPut_last rb d _ 0 (by intro e;rw [e] at b1;simp at b1)]
    simp
   ·simp [noLoad,noShelf]
 ·simp only [ha,Bool.false_eq_true,if_false]
  simp [noLoad,noShelf]
theorem dirOk_small {l:List S145} (h:dirOk l = true):l.length≤60:=by
 rw [dirOk,Bool.and_eq_true,decide_eq_true_iff] at h
 exact h.1
theorem shelfOf_small {rb:RBf} {rm:RMf} (hrm:∀ s,s.size≤1000000→RM s (rm s)) (d:List S122):(shelfOf rb rm d).1.length≤8∧(shelfOf rb rm d).2.2.2.2.1.length≤4∧(shelfOf rb rm d).2.2.2.2.2.1.length≤60∧(shelfOf rb rm d).2.2.2.2.2.2.2.1.length≤32:=by
 unfold shelfOf
 split
 ·rename_i hc
  obtain ⟨g1,g2,g3,-,-⟩:=load_good hrm hc
  obtain ⟨b1,-,-,-,b5,-,-⟩:=manOk_bounds g2
  have hdl:=(diskOk_up g1).1
  have hnd:=newDrop_len d
  have hdo:=dropsOf_len (loadOf rb rm d).1 d
  have h3:=dirOk_small g3
  have hp:(putRaw d (lastOf (loadOf rb rm d).1) (loadOf rb rm d).2.2.2.2.2.2.2.1).length≤1:=by unfold putRaw;split <;> simp
  dsimp only
  simp only [List.length_append]
  omega
 ·simp [noShelf]
theorem rb_all:∃ rb:RBf,∀ c,c.size≤9000→RB c (rb c):=Classical.axiomOfChoice (r:=fun (c:ByteArray) (r:Int×List S162×Bool) => c.size≤9000→RB c r) (fun c => by
 by_cases h:c.size≤9000
 ·obtain ⟨r,hr⟩:=readBatch_both c (by omega)
  exact ⟨r,fun _ => hr⟩
 ·exact ⟨(0,[],false),fun h' => absurd h' h⟩)
theorem rm_all:∃ rm:RMf,∀ s,s.size≤1000000→RM s (rm s):=Classical.axiomOfChoice (r:=fun (s:ByteArray) (r:Man) => s.size≤1000000→RM s r) (fun s => by
 by_cases h:s.size≤1000000
 ·obtain ⟨r,hr⟩:=readManifest_both s h
  exact ⟨r,fun _ => hr⟩
 ·exact ⟨noMan,fun h' => absurd h' h⟩)
theorem shelf_load {rb:RBf} {rm:RMf} {d:List S122} (h:(shelfOf rb rm d).2.2.2.2.2.2.2.2 = 0):(loadOf rb rm d).2.2.2.2.2.2.2.2 = 0:=by
 unfold shelfOf at h
 split at h
 ·assumption
 ·exact h
theorem shelf_good {rb:RBf} {rm:RMf} (hrm:∀ s,s.size≤1000000→RM s (rm s)) {d:List S122} (h:(shelfOf rb rm d).2.2.2.2.2.2.2.2 = 0):diskOk d = true∧manOk (shelfOf rb rm d).1 (shelfOf rb rm d).2.1 (shelfOf rb rm d).2.2.1 (shelfOf rb rm d).2.2.2.1 (shelfOf rb rm d).2.2.2.2.1 = true∧dirOk (shelfOf rb rm d).2.2.2.2.2.1 = true:=by
 have hc:=shelf_load h
 obtain ⟨g1,g2,g3,-,-⟩:=load_good hrm hc
 unfold shelfOf
 rw [if_pos hc]
 exact ⟨g1,g2,g3⟩
theorem laws_heldManifest_ev (m:Int) (n0 n4:Nat) (a b c:Int) (h0:0≤m) (h1:m + (n0:Int) + (n4:Int)≤1152921504606846976):Ev (fun k => laws_heldManifest.f k (upFrom m n0) a b c (upFrom (m + (n0:Int)) n4) m) (m + (n0:Int) + (n4:Int)) :=
 Ev.bind (laws_heldIntS_ev m n0 h0 (by omega) (by omega)) (Ev.neg (by omega) (Ev.bind (laws_heldIntS_ev (m + (n0:Int)) n4 (by omega) (by omega) (by omega)) (Ev.neg (by omega) (Ev.now _))))
theorem laws_heldShelf_ev (m:Int) (n0 n4:Nat) (a b c a6:Int) (dir:List S145) (h0:0≤m) (h1:m + (n0:Int) + (n4:Int) + 4 * (dir.length:Int)≤1152921504606846976):Ev (fun k => laws_heldShelf.f k (upFrom m n0) a b c (upFrom (m + (n0:Int)) n4) (markedSpot dir (m + (n0:Int) + (n4:Int))) a6 m) (m + (n0:Int) + (n4:Int) + 4 * (dir.length:Int)) :=
 Ev.bind (laws_heldManifest_ev m n0 n4 a b c h0 (by omega)) (Ev.neg (by omega) (Ev.bind (laws_heldSpotS_ev dir (m + (n0:Int) + (n4:Int)) (by omega) (by omega) (by omega)) (Ev.neg (by omega) (Ev.now _))))
theorem spec_l09SameInts_loop (l m:List Int) (hl:l.length≤9223372036854775806) (he:l.length = m.length):∀ (ra rb:List Int) (n:Nat),l.drop n = ra→m.drop n = rb→Ev (fun k => spec_l09SameInts.l0 k l m (n:Int)) (decide (ra = rb)):=by
 intro ra
 induction ra with
 | nil =>
  intro rb n h1 h2
  have h3:=drop_nil h1
  have:rb = []:=by rw [←h2];exact List.drop_eq_nil_of_le (by omega)
  subst this
  refine Ev.step (fun _ => rfl) ?_
  simp only [spec_l09SameInts.l0]
  exact Ev.neg (by omega) (Ev.done (by simp))
 | cons x t ih =>
  intro rb n h1 h2
  obtain ⟨k1,-,k3⟩:=drop_cons h1
  cases rb with
  | nil => have:=drop_nil h2;omega
  | cons y u =>
   obtain ⟨j1,-,j3⟩:=drop_cons h2
   refine Ev.step (fun _ => rfl) ?_
   simp only [spec_l09SameInts.l0,drop_rd h1,drop_rd h2,wrap64_succ (show n≤9223372036854775806 by omega)]
   refine Ev.pos (by omega) (Ev.pos (by omega) (Ev.pos (by omega) (Ev.ite (fun hc => Ev.eq (ih u (n + 1) k3 j3) ?_) (fun hc => Ev.done ?_))))
   ·subst hc;simp
   ·simp [hc]
theorem spec_l09SameInts_ev (l m:List Int) (hl:l.length≤9223372036854775806):Ev (fun k => spec_l09SameInts.f k l m) (decide (l = m)):=by
 unfold spec_l09SameInts.f
 refine Ev.ite (fun hc => spec_l09SameInts_loop l m hl (by omega) l m 0 rfl rfl) (fun hc => Ev.done ?_)
 exact (decide_eq_false (fun e => hc (by rw [e]))).symm
def spotTup (x:S145):ByteArray×Int×Int×Int:=(x.f0,x.f1,x.f2,x.f3)
theorem spotTup_inj:∀ {l m:List S145},l.map spotTup = m.map spotTup→l = m
 | [],[],_ => rfl
 | [],_::_,h => by simp at h
 | _::_,[],h => by simp at h
 | ⟨a,b,c,d⟩::l,⟨a',b',c',d'⟩::m,h => by
  simp only [List.map_cons,List.cons.injEq,spotTup,Prod.mk.injEq] at h
  obtain ⟨⟨rfl,rfl,rfl,rfl⟩,h⟩:=h
  rw [spotTup_inj h]
def shelfEq (s0:List Int) (a b c:Int) (s4:List Int) (dir:List S145) (st:Int) (t0:List Int) (a' b' c':Int) (t4:List Int) (dir':List S145) (st':Int):Bool :=
 decide (st = st') && (decide (s0 = t0) && (decide (a = a') && (decide (b = b') && (decide (c = c') && (decide (s4 = t4) && decide (dir.map spotTup = dir'.map spotTup))))))
theorem shelfEq_true {s0 t0 s4 t4:List Int} {a b c st a' b' c' st':Int} {dir dir':List S145} (h:shelfEq s0 a b c s4 dir st t0 a' b' c' t4 dir' st' = true):st = st'∧s0 = t0∧a = a'∧b = b'∧c = c'∧s4 = t4∧dir = dir':=by
 unfold shelfEq at h
 simp only [Bool.and_eq_true,decide_eq_true_iff] at h
 exact ⟨h.1,h.2.1,h.2.2.1,h.2.2.2.1,h.2.2.2.2.1,h.2.2.2.2.2.1,spotTup_inj h.2.2.2.2.2.2⟩
theorem shelfEq_symm (s0:List Int) (a b c:Int) (s4:List Int) (dir:List S145) (st:Int) (t0:List Int) (a' b' c':Int) (t4:List Int) (dir':List S145) (st':Int):shelfEq s0 a b c s4 dir st t0 a' b' c' t4 dir' st' = shelfEq t0 a' b' c' t4 dir' st' s0 a b c s4 dir st:=by
 have h:∀ {s0 t0 s4 t4:List Int} {a b c st a' b' c' st':Int} {dir dir':List S145},shelfEq s0 a b c s4 dir st t0 a' b' c' t4 dir' st' = true→shelfEq t0 a' b' c' t4 dir' st' s0 a b c s4 dir st = true:=by
  intro s0 t0 s4 t4 a b c st a' b' c' st' dir dir' h
  obtain ⟨rfl,rfl,rfl,rfl,rfl,rfl,rfl⟩:=shelfEq_true h
  exact h
 exact Bool.eq_iff_iff.2 ⟨h,h⟩
theorem spec_l09Same_loop (l m:List S145) (hl:l.length≤9223372036854775806) (he:l.length = m.length) (s0:List Int) (a b c:Int) (s4:List Int) (st:Int) (t0:List Int) (a' b' c':Int) (t4:List Int) (st':Int):∀ (ra rb:List S145) (n:Nat),l.drop n = ra→m.drop n = rb→Ev (fun k => spec_l09Same.l0 k (n:Int) s0 a b c s4 l st t0 a' b' c' t4 m st') (decide (ra.map spotTup = rb.map spotTup)):=by
 intro ra
 induction ra with
 | nil =>
  intro rb n h1 h2
  have h3:=drop_nil h1
  have:rb = []:=by rw [←h2];exact List.drop_eq_nil_of_le (by omega)
  subst this
  refine Ev.step (fun _ => rfl) ?_
  simp only [spec_l09Same.l0]
  exact Ev.neg (by omega) (Ev.done (by simp))
 | cons x t ih =>
  intro rb n h1 h2
  obtain ⟨k1,-,k3⟩:=drop_cons h1
  cases rb with
  | nil => have:=drop_nil h2;omega
  | cons y u =>
   obtain ⟨j1,-,j3⟩:=drop_cons h2
   refine Ev.step (fun _ => rfl) ?_
   simp only [spec_l09Same.l0,rdT145_drop h1,rdT145_drop h2,wrap64_succ (show n≤9223372036854775806 by omega)]
   refine Ev.pos (by omega) (Ev.pos (by omega) (Ev.pos (by omega) (Ev.ite (fun hc => Ev.done ?_) (fun hc => Ev.eq (ih u (n + 1) k3 j3) ?_))))
   ·symm
    rw [decide_eq_false_iff_not]
    intro e
    simp only [List.map_cons,List.cons.injEq,spotTup,Prod.mk.injEq] at e
    obtain ⟨⟨e1,e2,e3,e4⟩,-⟩:=e
    simp [e1,e2,e3,e4] at hc
   ·simp only [Bool.not_eq_true,Bool.or_eq_false_iff,Bool.not_eq_false',beq_iff_eq] at hc
    obtain ⟨e1,e2,e3,e4⟩:=hc
    have e1:=toList_inj.1 e1
    simp [spotTup,e1,e2,e3,e4]
theorem spec_l09Same_ev (s0:List Int) (a b c:Int) (s4:List Int) (dir:List S145) (st:Int) (t0:List Int) (a' b' c':Int) (t4:List Int) (dir':List S145) (st':Int) (h0:s0.length≤9223372036854775806) (h4:s4.length≤9223372036854775806) (h5:dir.length≤9223372036854775806):Ev (fun k => spec_l09Same.f k s0 a b c s4 dir st t0 a' b' c' t4 dir' st') (shelfEq s0 a b c s4 dir st t0 a' b' c' t4 dir' st'):=by
 have no:∀ r:Bool,r = false→Ev (fun k => spec_l09Same.j0 k true s0 a b c s4 dir st t0 a' b' c' t4 dir' st') r:=fun r hr => by
  refine Ev.step (fun _ => rfl) ?_
  simp only [spec_l09Same.j0]
  exact Ev.pos trivial (Ev.done hr.symm)
 unfold spec_l09Same.f
 refine Ev.ite (fun e1 => Ev.bind (spec_l09SameInts_ev s0 t0 h0) (Ev.ite (fun e2 => Ev.ite (fun e3 => Ev.ite (fun e4 => Ev.ite (fun e5 => Ev.bind (spec_l09SameInts_ev s4 t4 h4) (Ev.ite (fun e6 => ?_) (fun e6 => no _ ?_))) (fun e5 => no _ ?_)) (fun e4 => no _ ?_)) (fun e3 => no _ ?_)) (fun e2 => no _ ?_))) (fun e1 => no _ ?_)
 ·have e2:=of_decide_eq_true e2
  have e6:=of_decide_eq_true e6
  subst e1 e2 e3 e4 e5 e6
  refine Ev.step (fun _ => rfl) ?_
  simp only [spec_l09Same.j0]
  refine Ev.ite (fun hc => Ev.done ?_) (fun hc => ?_)
  ·symm
   unfold shelfEq
   have:¬ dir.map spotTup = dir'.map spotTup:=fun e => by
    have:=congrArg List.length e
    simp only [List.length_map] at this
    simp [this] at hc
   simp [this]
  ·have he:dir.length = dir'.length:=by have hi:=hc;simp at hi;omega
   refine Ev.eq (spec_l09Same_loop dir dir' h5 he _ _ _ _ _ _ _ _ _ _ _ _ dir dir' 0 rfl rfl) ?_
   simp [shelfEq]
 ·unfold shelfEq;simp at e6;simp [e6]
 ·unfold shelfEq;simp [e5]
 ·unfold shelfEq;simp [e4]
 ·unfold shelfEq;simp [e3]
 ·unfold shelfEq;simp at e2;simp [e2]
 ·unfold shelfEq;simp [e1]
theorem eqInts_loop (l m:List Int) (hl:l.length≤9223372036854775806) (he:l.length = m.length):∀ (ra rb:List Int) (n:Nat),l.drop n = ra→m.drop n = rb→Ev (fun k => slices_Equal_int_int.l0 k l m (l.length:Int) (n:Int)) (decide (ra = rb)):=by
 intro ra
 induction ra with
 | nil =>
  intro rb n h1 h2
  have h3:=drop_nil h1
  have:rb = []:=by rw [←h2];exact List.drop_eq_nil_of_le (by omega)
  subst this
  refine Ev.step (fun _ => rfl) ?_
  simp only [slices_Equal_int_int.l0]
  exact Ev.neg (by omega) (Ev.done (by simp))
 | cons x t ih =>
  intro rb n h1 h2
  obtain ⟨k1,-,k3⟩:=drop_cons h1
  cases rb with
  | nil => have:=drop_nil h2;omega
  | cons y u =>
   obtain ⟨j1,-,j3⟩:=drop_cons h2
   refine Ev.step (fun _ => rfl) ?_
   simp only [slices_Equal_int_int.l0,drop_rd h1,drop_rd h2,wrap64_succ (show n≤9223372036854775806 by omega)]
   refine Ev.pos (by omega) (Ev.pos (by omega) (Ev.pos (by omega) (Ev.pos (by omega) (Ev.ite (fun hc => Ev.eq (ih u (n + 1) k3 j3) ?_) (fun hc => Ev.done ?_)))))
   ·subst hc;simp
   ·simp [hc]
theorem eqInts_ev (l m:List Int) (hl:l.length≤9223372036854775806):Ev (fun k => slices_Equal_int_int.f k l m) (decide (l = m)):=by
 unfold slices_Equal_int_int.f
 refine Ev.ite (fun hc => eqInts_loop l m hl (by omega) l m 0 rfl rfl) (fun hc => Ev.done ?_)
 exact (decide_eq_false (fun e => hc (by rw [e]))).symm
theorem eqSpots_loop (l m:List S145) (hl:l.length≤9223372036854775806) (he:l.length = m.length):∀ (ra rb:List S145) (n:Nat),l.drop n = ra→m.drop n = rb→Ev (fun k => slices_Equal_impl_Spot_impl_Spot.l0 k l m (l.length:Int) (n:Int)) (decide (ra.map spotTup = rb.map spotTup)):=by
 intro ra
 induction ra with
 | nil =>
  intro rb n h1 h2
  have h3:=drop_nil h1
  have:rb = []:=by rw [←h2];exact List.drop_eq_nil_of_le (by omega)
  subst this
  refine Ev.step (fun _ => rfl) ?_
  simp only [slices_Equal_impl_Spot_impl_Spot.l0]
  exact Ev.neg (by omega) (Ev.done (by simp))
 | cons x t ih =>
  intro rb n h1 h2
  obtain ⟨k1,-,k3⟩:=drop_cons h1
  cases rb with
  | nil => have:=drop_nil h2;omega
  | cons y u =>
   obtain ⟨j1,-,j3⟩:=drop_cons h2
   refine Ev.step (fun _ => rfl) ?_
   simp only [slices_Equal_impl_Spot_impl_Spot.l0,rdT145_drop h1,rdT145_drop h2,wrap64_succ (show n≤9223372036854775806 by omega)]
   refine Ev.pos (by omega) (Ev.pos (by omega) (Ev.pos (by omega) (Ev.pos (by omega) (Ev.ite (fun hc => Ev.eq (ih u (n + 1) k3 j3) ?_) (fun hc => Ev.done ?_)))))
   ·simp only [Bool.and_eq_true,beq_iff_eq] at hc
    obtain ⟨e1,e2,e3,e4⟩:=hc
    have e1:=toList_inj.1 e1
    simp [spotTup,e1,e2,e3,e4]
   ·symm
    rw [decide_eq_false_iff_not]
    intro e
    simp only [List.map_cons,List.cons.injEq,spotTup,Prod.mk.injEq] at e
    obtain ⟨⟨e1,e2,e3,e4⟩,-⟩:=e
    simp [e1,e2,e3,e4] at hc
theorem eqSpots_ev (l m:List S145) (hl:l.length≤9223372036854775806):Ev (fun k => slices_Equal_impl_Spot_impl_Spot.f k l m) (decide (l.map spotTup = m.map spotTup)):=by
 unfold slices_Equal_impl_Spot_impl_Spot.f
 refine Ev.ite (fun hc => eqSpots_loop l m hl (by omega) l m 0 rfl rfl) (fun hc => Ev.done ?_)
 refine (decide_eq_false (fun e => hc ?_)).symm
 have:=congrArg List.length e
 simp only [List.length_map] at this
 rw [this]
theorem impl_sameShelf_ev (s0:List Int) (a b c:Int) (s4:List Int) (dir:List S145) (st:Int) (t0:List Int) (a' b' c':Int) (t4:List Int) (dir':List S145) (st':Int) (h0:s0.length≤9223372036854775806) (h4:s4.length≤9223372036854775806) (h5:dir.length≤9223372036854775806):Ev (fun k => impl_sameShelf.f k s0 a b c s4 dir st t0 a' b' c' t4 dir' st') (shelfEq s0 a b c s4 dir st t0 a' b' c' t4 dir' st'):=by
 have hm:Ev (fun k => impl_sameManifest.f k s0 a b c s4 t0 a' b' c' t4) (decide (s0 = t0) && (decide (a = a') && (decide (b = b') && (decide (c = c') && decide (s4 = t4))))):=by
  unfold impl_sameManifest.f
  refine Ev.bind (eqInts_ev s0 t0 h0) (Ev.ite (fun e2 => Ev.ite (fun e3 => Ev.ite (fun e4 => Ev.ite (fun e5 => Ev.bind (eqInts_ev s4 t4 h4) (Ev.done ?_)) (fun e5 => Ev.done ?_)) (fun e4 => Ev.done ?_)) (fun e3 => Ev.done ?_)) (fun e2 => Ev.done ?_))
  ·simp only [e2,e3,e4,e5,decide_true,Bool.true_and]
  ·simp [e5]
  ·simp [e4]
  ·simp [e3]
  ·rw [Bool.eq_false_iff.2 e2,Bool.false_and]
 unfold impl_sameShelf.f
 refine Ev.bind hm (Ev.ite (fun e1 => Ev.bind (eqSpots_ev dir dir' h5) (Ev.ite (fun e2 => Ev.done ?_) (fun e2 => Ev.done ?_))) (fun e1 => Ev.done ?_))
 ·simp only [Bool.and_eq_true] at e1
  unfold shelfEq
  rw [e1.1,e1.2.1,e1.2.2.1,e1.2.2.2.1,e1.2.2.2.2,e2]
  simp only [Bool.and_true]
  exact Bool.eq_iff_iff.2 (by simp)
 ·unfold shelfEq;rw [Bool.eq_false_iff.2 e2];simp
 ·unfold shelfEq
  symm
  rw [Bool.eq_false_iff]
  intro h
  apply e1
  simp only [Bool.and_eq_true] at h ⊢
  exact ⟨h.2.1,h.2.2.1,h.2.2.2.1,h.2.2.2.2.1,h.2.2.2.2.2.1⟩
def putF (name text:ByteArray) (d:List S122):List S122:=d.filter (fun x => lessK x.f0 name)++[(⟨name,text⟩:S122)]++d.filter (fun x => lessK name x.f0)
theorem spec_l03Put_l1 (d:List S122) (hd:d.length≤1048576) (name text:ByteArray):∀ (rest:List S122) (n:Nat) (acc:List S122),d.drop n = rest→acc.length + rest.length≤4000000 →
  Ev (fun k => spec_l03Put.l1 k (n:Int) d name text acc) (acc++rest.filter fun x => lessK name x.f0):=by
 intro rest
 induction rest with
 | nil =>
  intro n acc h _
  have:=drop_nil h
  refine Ev.step (fun _ => rfl) ?_
  simp only [spec_l03Put.l1]
  exact Ev.neg (by omega) (Ev.done (by simp))
 | cons x t ih =>
  intro n acc h h1
  obtain ⟨k1,-,k3⟩:=drop_cons h
  rw [List.length_cons] at h1
  refine Ev.step (fun _ => rfl) ?_
  simp only [spec_l03Put.l1,rdT122_drop h,wrap64_succ (show n≤9223372036854775806 by omega)]
  refine Ev.pos (by omega) (Ev.pos (by omega) (Ev.ite (fun hc => Ev.pos (by omega) (Ev.eq (ih (n + 1) _ k3 (by simp;omega)) ?_)) (fun hc => Ev.eq (ih (n + 1) acc k3 (by omega)) ?_)))
  ·rw [List.filter_cons_of_pos (by exact hc)];simp
  ·rw [List.filter_cons_of_neg (by exact hc)]
theorem spec_l03Put_l0 (d:List S122) (hd:d.length≤1048576) (name text:ByteArray):∀ (rest:List S122) (n:Nat) (acc:List S122),d.drop n = rest→acc.length + rest.length≤1048576→acc++rest.filter (fun x => lessK x.f0 name) = d.filter (fun x => lessK x.f0 name) →
  Ev (fun k => spec_l03Put.l0 k (n:Int) d name text acc) (putF name text d):=by
 intro rest
 induction rest with
 | nil =>
  intro n acc h h1 he
  have:=drop_nil h
  rw [List.filter_nil,List.append_nil] at he
  rw [List.length_nil] at h1
  refine Ev.step (fun _ => rfl) ?_
  simp only [spec_l03Put.l0]
  refine Ev.neg (by omega) (Ev.pos (by omega) (Ev.eq (spec_l03Put_l1 d hd name text d 0 _ rfl (by simp;omega)) ?_))
  rw [he];rfl
 | cons x t ih =>
  intro n acc h h1 he
  obtain ⟨k1,-,k3⟩:=drop_cons h
  rw [List.length_cons] at h1
  refine Ev.step (fun _ => rfl) ?_
  simp only [spec_l03Put.l0,rdT122_drop h,wrap64_succ (show n≤9223372036854775806 by omega)]
  refine Ev.pos (by omega) (Ev.pos (by omega) (Ev.ite (fun hc => Ev.pos (by omega) (ih (n + 1) _ k3 (by simp;omega) ?_)) (fun hc => ih (n + 1) acc k3 (by omega) ?_)))
  ·rw [List.filter_cons_of_pos (by exact hc)] at he;rw [←he];simp
  ·rw [List.filter_cons_of_neg (by exact hc)] at he;exact he
theorem spec_l03Put_ev (d:List S122) (hd:d.length≤1048576) (name text:ByteArray):Ev (fun k => spec_l03Put.f k d name text) (putF name text d) :=
 spec_l03Put_l0 d hd name text d 0 [] rfl (by simp;omega) (by simp)
theorem putF_len (name text:ByteArray) (d:List S122):(putF name text d).length≤2 * d.length + 1:=by
 have h1:=List.length_filter_le (fun x:S122 => lessK x.f0 name) d
 have h2:=List.length_filter_le (fun x:S122 => lessK name x.f0) d
 unfold putF
 simp only [List.length_append,List.length_singleton]
 omega
def dropF (name:ByteArray) (d:List S122):List S122:=d.filter fun x => !decide (x.f0 = name)
theorem dropF_len (name:ByteArray) (d:List S122):(dropF name d).length≤d.length:=List.length_filter_le _ _
theorem spec_l03Drop_l0 (name:ByteArray) (d:List S122) (hd:d.length≤1048576):∀ (rest:List S122) (n:Nat) (acc:List S122),d.drop n = rest→acc.length + rest.length≤1048576 →
  Ev (fun k => spec_l03Drop.l0 k name (n:Int) d acc) (acc++dropF name rest):=by
 intro rest
 induction rest with
 | nil =>
  intro n acc h _
  have:=drop_nil h
  refine Ev.step (fun _ => rfl) ?_
  simp only [spec_l03Drop.l0]
  exact Ev.neg (by omega) (Ev.done (by simp [dropF]))
 | cons x t ih =>
  intro n acc h h1
  obtain ⟨k1,-,k3⟩:=drop_cons h
  rw [List.length_cons] at h1
  refine Ev.step (fun _ => rfl) ?_
  simp only [spec_l03Drop.l0,rdT122_drop h,wrap64_succ (show n≤9223372036854775806 by omega)]
  refine Ev.pos (by omega) (Ev.pos (by omega) (Ev.ite (fun hc => Ev.eq (ih (n + 1) acc k3 (by omega)) ?_) (fun hc => Ev.pos (by omega) (Ev.eq (ih (n + 1) _ k3 (by simp;omega)) ?_))))
  ·unfold dropF;rw [List.filter_cons_of_neg (by simp [toList_inj.1 hc])]
  ·unfold dropF;rw [List.filter_cons_of_pos (by simp;exact fun e => hc (by rw [e]))];simp
theorem spec_l03Drop_ev (d:List S122) (hd:d.length≤1048576) (name:ByteArray):Ev (fun k => spec_l03Drop.f k d name) (dropF name d) :=
 Ev.eq (spec_l03Drop_l0 name d hd d 0 [] rfl (by simp;omega)) (by simp)
def putRawOf (d:List S122) (r:S119):List S122 :=
 if r.f0 = 1 then putF r.f1 r.f3 d else if r.f0 = 2 then putF r.f1 (textAt r.f1 d++r.f3) d else if r.f0 = 3 then (if r.f2 = r.f1 then d else putF r.f2 (textAt r.f1 d) (dropF r.f1 d)) else dropF r.f1 d
def putRaw1 (d:List S122) (r:S119):List S122×Bool :=
 if (diskOk d && (inR r.f0 1 4 && (decide (r.f0 < 3) || stands (nameCmp r.f1) d))) = true then (if diskOk (putRawOf d r) = true then (putRawOf d r,true) else ([],false)) else ([],false)
theorem spec_fin (t:List S122) (ht:t.length≤1048576):Ev (fun k => (spec_DiskOk.f k t).bind fun b => if b = true then some (t,true) else some ([],false)) (if diskOk t = true then (t,true) else ([],false)):=by
 refine Ev.bind (spec_DiskOk_ev t ht) ?_
 cases diskOk t
 ·exact Ev.neg (by simp) (Ev.now _)
 ·exact Ev.pos rfl (Ev.now _)
theorem spec_PutRaw_ev (d:List S122) (hd:diskOk d = true) (r:S119) (h3:r.f3.size≤1000000000):Ev (fun k => spec_PutRaw.f k d r.f0 r.f1 r.f2 r.f3) (putRaw1 d r):=by
 obtain ⟨hdl,hu⟩:=diskOk_up hd
 have hl:d.length≤1048576:=by omega
 have no:∀ x6:Int,Ev (fun k => spec_PutRaw.j0 k x6 true d r.f0 r.f1 r.f2 r.f3) ([],false):=fun x6 => by
  refine Ev.step (fun _ => rfl) ?_
  simp only [spec_PutRaw.j0]
  exact Ev.pos trivial (Ev.now _)
 have go:∀ x6:Int,inR r.f0 1 4 = true→(r.f0 = 3→stands (nameCmp r.f1) d = true∧x6 = ((aheadN (nameCmp r.f1) d:Nat):Int))→Ev (fun k => spec_PutRaw.j0 k x6 false d r.f0 r.f1 r.f2 r.f3) (if diskOk (putRawOf d r) = true then (putRawOf d r,true) else ([],false)):=fun x6 hk hx => by
  have hk:=inR_true.1 hk
  have ht:=textAt_size hd r.f1
  refine Ev.step (fun _ => rfl) ?_
  simp only [spec_PutRaw.j0]
  refine Ev.neg (by simp) (Ev.call rfl (Ev.pos (by simp;omega) (Ev.call rfl ?_)))
  rw [List.nil_append]
  unfold putRawOf
  refine Ev.ite (fun e1 => ?_) (fun e1 => Ev.ite (fun e2 => ?_) (fun e2 => Ev.ite (fun e3 => ?_) (fun e3 => ?_)))
  ·rw [if_pos e1]
   have:=putF_len r.f1 r.f3 d
   exact Ev.bind (spec_l03Put_ev d hl r.f1 r.f3) (spec_fin _ (by omega))
  ·rw [if_neg e1,if_pos e2]
   have:=putF_len r.f1 (textAt r.f1 d++r.f3) d
   exact Ev.bind (spec_l03Text_ev d hl hu r.f1) (Ev.pos (by omega) (Ev.bind (spec_l03Put_ev d hl r.f1 _) (spec_fin _ (by omega))))
  ·rw [if_neg e1,if_neg e2,if_pos e3]
   obtain ⟨hs,rfl⟩:=hx e3
   have:=dropF_len r.f1 d
   refine Ev.ite (fun e4 => ?_) (fun e4 => ?_)
   ·rw [show (if r.f2 = r.f1 then d else putF r.f2 (textAt r.f1 d) (dropF r.f1 d)) = d from if_pos (toList_inj.1 e4)];exact spec_fin _ hl
   ·rw [show (if r.f2 = r.f1 then d else putF r.f2 (textAt r.f1 d) (dropF r.f1 d)) = putF r.f2 (textAt r.f1 d) (dropF r.f1 d) from if_neg (fun e => e4 (by rw [e]))]
    obtain ⟨x,hx1,-⟩:=stands_at hs
    obtain ⟨h1,-⟩:=List.getElem?_eq_some_iff.1 hx1
    have et:(rd_T122 d ((aheadN (nameCmp r.f1) d:Nat):Int)).f1 = textAt r.f1 d:=by unfold textAt;rw [if_pos hs]
    rw [et]
    have:=putF_len r.f2 (textAt r.f1 d) (dropF r.f1 d)
    exact Ev.bind (spec_l03Drop_ev d hl r.f1) (Ev.pos (by omega) (Ev.pos (by omega) (Ev.bind (spec_l03Put_ev _ (by omega) r.f2 _) (spec_fin _ (by omega)))))
  ·rw [if_neg e1,if_neg e2,if_neg e3]
   have:=dropF_len r.f1 d
   exact Ev.pos (by omega) (Ev.bind (spec_l03Drop_ev d hl r.f1) (spec_fin _ (by omega)))
 unfold spec_PutRaw.f putRaw1
 refine Ev.bind (spec_l03At_ev d hl hu r.f1) (Ev.bind (spec_DiskOk_ev d hl) ?_)
 rw [hd]
 refine Ev.pos rfl (Ev.call (spec_l01In_eq _ _ _) ?_)
 cases hk:inR r.f0 1 4
 ·exact Ev.neg (by simp) (Ev.eq (no _) (by simp))
 refine Ev.pos rfl ?_
 unfold placeAt
 cases hs:stands (nameCmp r.f1) d
 ·rw [if_neg (by simp)]
  refine Ev.pos (by omega) ?_
  by_cases h4:r.f0≥3
  ·rw [decide_eq_true h4]
   exact Ev.eq (no _) (by rw [decide_eq_false (show ¬ r.f0 < 3 by omega)];simp)
  ·rw [decide_eq_false h4]
   exact Ev.eq (go _ hk (fun e => absurd (by omega) h4)) (by rw [decide_eq_true (show r.f0 < 3 by omega)];simp)
 ·rw [if_pos rfl]
  exact Ev.neg (by omega) (Ev.eq (go _ hk (fun _ => ⟨hs,rfl⟩)) (by simp))
theorem fahead_cons (key:ByteArray) (x:S122) (t:List S122):aheadN (nameCmp key) (x::t) = aheadN (nameCmp key) t + (if lessK x.f0 key = true then 1 else 0):=by
 unfold aheadN
 rw [List.countP_cons]
 congr 1
 by_cases h:lessK x.f0 key = true
 ·rw [if_pos h,if_pos (by rw [decide_eq_true_iff,name_lt];exact h)]
 ·rw [if_neg h,if_neg (by rw [decide_eq_true_iff,name_lt];exact h)]
theorem fup_none {key:ByteArray} {x:S122} {t:List S122} (h:namesUp (x::t)) (hx:¬ lessK x.f0 key = true):∀ y∈t,¬ lessK y.f0 key = true:=fun y hy e => hx (less_trans ((List.pairwise_cons.mp h).1 y hy) e)
theorem fahead_none {key:ByteArray} {t:List S122} (h:∀ y∈t,¬ lessK y.f0 key = true):aheadN (nameCmp key) t = 0:=by
 unfold aheadN
 rw [List.countP_eq_zero]
 intro y hy
 rw [decide_eq_true_iff,name_lt]
 exact h y hy
theorem fahead_take (key:ByteArray):∀ (l:List S122),namesUp l→l.take (aheadN (nameCmp key) l) = l.filter (fun x => lessK x.f0 key)∧l.drop (aheadN (nameCmp key) l) = l.filter (fun x => !lessK x.f0 key)
 | [],_ => by simp
 | x::t,h => by
  by_cases hx:lessK x.f0 key = true
  ·obtain ⟨h1,h2⟩:=fahead_take key t (List.pairwise_cons.mp h).2
   rw [fahead_cons,if_pos hx,List.take_succ_cons,List.drop_succ_cons,List.filter_cons_of_pos (by exact hx),List.filter_cons_of_neg (by simp [hx]),h1,h2]
   exact ⟨rfl,rfl⟩
  ·have hn:=fup_none h hx
   rw [fahead_cons,if_neg hx,fahead_none hn]
   refine ⟨?_,?_⟩
   ·rw [List.filter_eq_nil_iff.mpr (fun y hy => by rcases List.mem_cons.1 hy with rfl | hy;exact hx;exact hn y hy)];rfl
   ·rw [List.filter_eq_self.mpr (fun y hy => by rcases List.mem_cons.1 hy with rfl | hy;(simp [hx]);(simp [hn y hy]))];rfl
theorem fStands_at (key:ByteArray) {l:List S122} (h:namesUp l) :
  (stands (nameCmp key) l = true→aheadN (nameCmp key) l < l.length∧l.drop (aheadN (nameCmp key) l + 1) = l.filter (fun x => lessK key x.f0)) ∧
  (stands (nameCmp key) l = false→l.drop (aheadN (nameCmp key) l) = l.filter (fun x => lessK key x.f0)):=by
 have hd:=(fahead_take key l h).2
 have hf:∀ {t:List S122},(∀ x∈t,lessK key x.f0 = true)→∀ {a:List S122},l = a++t→(∀ x∈a,¬ lessK key x.f0 = true)→l.filter (fun x => lessK key x.f0) = t:=by
  intro t ht a hl ha
  rw [hl,List.filter_append,List.filter_eq_nil_iff.mpr (fun x hx => ha x hx),List.filter_eq_self.mpr (fun x hx => ht x hx),List.nil_append]
 have ht:∀ x∈l.take (aheadN (nameCmp key) l),¬ lessK key x.f0 = true:=by
  intro x hx e
  rw [(fahead_take key l h).1] at hx
  have:=less_trans e (List.mem_filter.1 hx).2
  rw [less_irr] at this;cases this
 have hup:namesUp (l.drop (aheadN (nameCmp key) l)):=List.Pairwise.sublist (List.drop_sublist _ _) h
 have hge:∀ x∈l.drop (aheadN (nameCmp key) l),¬ lessK x.f0 key = true:=by
  intro x hx
  rw [hd] at hx
  simpa using (List.mem_filter.1 hx).2
 unfold stands
 rw [←List.head?_drop]
 cases hq:l.drop (aheadN (nameCmp key) l) with
 | nil =>
  refine ⟨fun e => by simp at e,fun _ => ?_⟩
  exact (hf (t:=[]) (by simp) (a:=l.take (aheadN (nameCmp key) l)) (by rw [←hq,List.take_append_drop]) ht).symm
 | cons m t =>
  rw [hq] at hup hge
  have hlt:aheadN (nameCmp key) l < l.length:=by
   rcases Nat.lt_or_ge (aheadN (nameCmp key) l) l.length with h1 | h1
   ·exact h1
   ·rw [List.drop_eq_nil_of_le h1] at hq;cases hq
  have hl:l = l.take (aheadN (nameCmp key) l)++(m::t):=by rw [←hq,List.take_append_drop]
  have ht1:l.drop (aheadN (nameCmp key) l + 1) = t:=by rw [←List.drop_drop,hq];rfl
  simp only [List.head?_cons,decide_eq_true_iff,decide_eq_false_iff_not,name_eq]
  refine ⟨fun e => ⟨hlt,?_⟩,fun e => ?_⟩
  ·rw [ht1]
   refine (hf (t:=t) (fun x hx => ?_) (a:=l.take (aheadN (nameCmp key) l)++[m]) (by rw [List.append_assoc];exact hl) (fun x hx => ?_)).symm
   ·have:=(List.pairwise_cons.mp hup).1 x hx
    unfold lessK at this ⊢
    rw [←e];exact this
   ·rcases List.mem_append.1 hx with hx | hx
    ·exact ht x hx
    ·rw [List.mem_singleton] at hx
     unfold lessK
     rw [hx,e,less_irr];simp
  ·refine (hf (t:=m::t) (fun x hx => ?_) hl ht).symm
   have hm:lessK key m.f0 = true:=by
    cases hc:lessK key m.f0
    ·exact absurd (less_tri (by simpa [lessK] using hge m List.mem_cons_self) hc) e
    ·rfl
   rcases List.mem_cons.1 hx with rfl | hx
   ·exact hm
   ·exact less_trans hm ((List.pairwise_cons.mp hup).1 x hx)
theorem withFile_eq (d:List S122) (hu:namesUp d) (hl:d.length≤1048576) (name text:ByteArray):Ev (fun k => impl_withFile.f k d name text) (putF name text d):=by
 have ha:=aheadN_le (nameCmp name) d
 obtain ⟨g1,g2⟩:=fStands_at name hu
 have ht:=(fahead_take name d hu).1
 unfold impl_withFile.f impl_copyDisk.f
 rw [if_pos (by omega),List.nil_append]
 refine Ev.call rfl (Ev.bind (impl_fileNo_ev d hl hu name) ?_)
 cases hs:stands (nameCmp name) d
 ·refine Ev.neg (by simp) ?_
  unfold slices_Insert_impl_File_impl_File.f insO
  dsimp only
  rw [if_pos (by omega),if_pos (by omega),if_pos (by omega),Option.bind_some,Option.bind_some]
  refine Ev.done ?_
  rw [Int.toNat_natCast,ht,g2 hs]
  unfold putF
  simp
 ·obtain ⟨x,hx,hxe⟩:=stands_at hs
  obtain ⟨h1,h2⟩:=g1 hs
  refine Ev.pos rfl (Ev.pos (by omega) (Ev.pos (by omega) (Ev.done ?_)))
  have er:(rd_T122 d ((aheadN (nameCmp name) d:Nat):Int)).f0 = name:=by
   rw [rdT122_get h1] at hx
   injection hx with hx
   rw [hx];exact toList_inj.1 hxe
  dsimp only
  rw [er,Int.toNat_natCast,List.set_eq_take_append_cons_drop,if_pos h1,ht,h2]
  unfold putF
  simp
theorem lt_ne {a b:ByteArray} (h:lessK a b = true):a≠b:=fun e => by subst e;rw [lessK_irr] at h;cases h
theorem dropF_parts (name:ByteArray) {d:List S122} (hu:namesUp d):d.filter (fun x => lessK x.f0 name)++d.filter (fun x => lessK name x.f0) = dropF name d:=by
 induction d with
 | nil => rfl
 | cons x t ih =>
  have ht:=(List.pairwise_cons.mp hu).2
  have ih:=ih ht
  unfold dropF at ih ⊢
  rcases lt_tri x.f0 name with h | h | h
  ·have h':¬ lessK name x.f0 = true:=fun e => by have:=lessK_trans h e;rw [lessK_irr] at this;cases this
   rw [List.filter_cons_of_pos (by exact h),List.filter_cons_of_neg (by exact h'),List.filter_cons_of_pos (by simpa using lt_ne h),List.cons_append,ih]
  ·have h1:¬ lessK x.f0 name = true:=by rw [h,lessK_irr];simp
   have h2:¬ lessK name x.f0 = true:=by rw [h,lessK_irr];simp
   rw [List.filter_cons_of_neg (by exact h1),List.filter_cons_of_neg (by exact h2),List.filter_cons_of_neg (by simp [h]),ih]
  ·have hn:∀ y∈t,¬ lessK y.f0 name = true:=fun y hy e => by
    have:=lessK_trans (lessK_trans h ((List.pairwise_cons.mp hu).1 y hy)) e
    rw [lessK_irr] at this;cases this
   have h':¬ lessK x.f0 name = true:=fun e => by have:=lessK_trans h e;rw [lessK_irr] at this;cases this
   have e0:t.filter (fun x => lessK x.f0 name) = []:=List.filter_eq_nil_iff.mpr hn
   rw [e0,List.nil_append] at ih
   rw [List.filter_cons_of_neg (by exact h'),List.filter_cons_of_pos (by exact h),List.filter_cons_of_pos (by simpa using (lt_ne h).symm),e0,List.nil_append,ih]
theorem dropF_up (name:ByteArray) {d:List S122} (hu:namesUp d):namesUp (dropF name d):=List.Pairwise.filter _ hu
theorem without_eq (d:List S122) (hu:namesUp d) (hl:d.length≤1048576) (name:ByteArray):Ev (fun k => impl_without.f k d name) (dropF name d):=by
 have ha:=aheadN_le (nameCmp name) d
 obtain ⟨g1,g2⟩:=fStands_at name hu
 have ht:=(fahead_take name d hu).1
 unfold impl_without.f impl_copyDisk.f
 rw [if_pos (by omega),List.nil_append]
 refine Ev.call rfl (Ev.bind (impl_fileNo_ev d hl hu name) ?_)
 rw [←dropF_parts name hu]
 cases hs:stands (nameCmp name) d
 ·refine Ev.neg (by simp) (Ev.done ?_)
  rw [←ht,←g2 hs,List.take_append_drop]
 ·obtain ⟨h1,h2⟩:=g1 hs
  refine Ev.pos rfl ?_
  unfold slices_Delete_impl_File_impl_File.f delO
  dsimp only
  rw [wrap64_succ (show aheadN (nameCmp name) d≤9223372036854775806 by omega),if_pos (by omega),if_pos (by omega),if_pos (by omega),Option.bind_some]
  refine Ev.done ?_
  rw [Int.toNat_natCast,ht,h2]
theorem impl_fin (t:List S122) (ht:t.length≤1048576):Ev (fun k => (impl_DiskOk.f k t).bind fun b => if b = true then some (t,true) else some ([],false)) (if diskOk t = true then (t,true) else ([],false)):=by
 refine Ev.bind (impl_DiskOk_ev t ht) ?_
 cases diskOk t
 ·exact Ev.neg (by simp) (Ev.now _)
 ·exact Ev.pos rfl (Ev.now _)
theorem impl_PutRaw_ev (d:List S122) (hd:diskOk d = true) (r:S119) (h3:r.f3.size≤1000000000):Ev (fun k => impl_PutRaw.f k d r.f0 r.f1 r.f2 r.f3) (putRaw1 d r):=by
 obtain ⟨hdl,hu⟩:=diskOk_up hd
 have hl:d.length≤1048576:=by omega
 have ht:=textAt_size hd r.f1
 unfold impl_PutRaw.f putRaw1
 refine Ev.bind (impl_DiskOk_ev d hl) ?_
 rw [hd,Bool.true_and]
 refine Ev.pos rfl (Ev.bind (impl_FileAt_ev d hd r.f1) ?_)
 dsimp only
 refine Ev.ite (fun e1 => ?_) (fun e1 => Ev.ite (fun e2 => ?_) (fun e2 => Ev.ite (fun e3 => ?_) (fun e3 => Ev.ite (fun e4 => ?_) (fun e4 => Ev.done ?_))))
 ·have hc:(inR r.f0 1 4 && (decide (r.f0 < 3) || stands (nameCmp r.f1) d)) = true:=by rw [e1];rfl
  have:=putF_len r.f1 r.f3 d
  have ep:putRawOf d r = putF r.f1 r.f3 d:=by unfold putRawOf;rw [if_pos e1]
  rw [if_pos hc,ep]
  exact Ev.bind (withFile_eq d hu hl r.f1 r.f3) (impl_fin _ (by omega))
 ·have hc:(inR r.f0 1 4 && (decide (r.f0 < 3) || stands (nameCmp r.f1) d)) = true:=by rw [e2];rfl
  have:=putF_len r.f1 (textAt r.f1 d++r.f3) d
  have ep:putRawOf d r = putF r.f1 (textAt r.f1 d++r.f3) d:=by unfold putRawOf;rw [if_neg e1,if_pos e2]
  rw [if_pos hc,ep]
  exact Ev.pos (by omega) (Ev.bind (withFile_eq d hu hl r.f1 _) (impl_fin _ (by omega)))
 ·have hc:(inR r.f0 1 4 && (decide (r.f0 < 3) || stands (nameCmp r.f1) d)) = stands (nameCmp r.f1) d:=by rw [e3];rfl
  have hdl2:=dropF_len r.f1 d
  have:=putF_len r.f2 (textAt r.f1 d) (dropF r.f1 d)
  refine Ev.call (by unfold impl_copyDisk.f;rw [if_pos (by omega),List.nil_append]) (Ev.ite (fun e5 => ?_) (fun e5 => ?_))
  ·have ep:putRawOf d r = d:=by unfold putRawOf;rw [if_neg e1,if_neg e2,if_pos e3,if_pos (toList_inj.1 e5).symm]
   rw [hc,ep]
   cases stands (nameCmp r.f1) d
   ·exact Ev.neg (by simp) (Ev.now _)
   ·exact Ev.pos rfl (impl_fin _ hl)
  ·have ep:putRawOf d r = putF r.f2 (textAt r.f1 d) (dropF r.f1 d):=by unfold putRawOf;rw [if_neg e1,if_neg e2,if_pos e3,if_neg (fun e => e5 (by rw [e]))]
   rw [hc,ep]
   refine Ev.bind (without_eq d hu hl r.f1) (Ev.bind (withFile_eq _ (dropF_up r.f1 hu) (by omega) r.f2 _) ?_)
   cases stands (nameCmp r.f1) d
   ·exact Ev.neg (by simp) (Ev.now _)
   ·exact Ev.pos rfl (impl_fin _ (by omega))
 ·have hc:(inR r.f0 1 4 && (decide (r.f0 < 3) || stands (nameCmp r.f1) d)) = stands (nameCmp r.f1) d:=by rw [e4];rfl
  have hdl2:=dropF_len r.f1 d
  have ep:putRawOf d r = dropF r.f1 d:=by unfold putRawOf;rw [if_neg e1,if_neg e2,if_neg e3]
  rw [hc,ep]
  refine Ev.bind (without_eq d hu hl r.f1) ?_
  cases stands (nameCmp r.f1) d
  ·exact Ev.neg (by simp) (Ev.now _)
  ·exact Ev.pos rfl (impl_fin _ (by omega))
 ·have hc:inR r.f0 1 4 = false:=inR_false.2 (by omega)
  rw [hc,Bool.false_and]
  rfl
def putRawsOf:List S119→List S122→Nat→List S122×Nat
 | [],d,n => (d,n)
 | r::t,d,n => if (putRaw1 d r).2 = true then putRawsOf t (putRaw1 d r).1 (n + 1) else (d,n)
theorem putRaw1_ok {d:List S122} {r:S119} (h:(putRaw1 d r).2 = true):diskOk (putRaw1 d r).1 = true:=by
 unfold putRaw1 at h ⊢
 split at h
 ·rename_i h1
  rw [if_pos h1]
  split at h
  ·rename_i h2;rw [if_pos h2];exact h2
  ·cases h
 ·cases h
theorem spec_PutRaws_loop (l:List S119) (hl:l.length≤1048576) (h3:∀ r∈l,r.f3.size≤1000000000):∀ (rest:List S119) (n:Nat) (d:List S122),l.drop n = rest→n≤l.length→diskOk d = true→Ev (fun k => spec_PutRaws.l0 k l (n:Int) d) ((putRawsOf rest d n).1,((putRawsOf rest d n).2:Int)):=by
 intro rest
 induction rest with
 | nil =>
  intro n d h hn hd
  have:=drop_nil h
  refine Ev.step (fun _ => rfl) ?_
  simp only [spec_PutRaws.l0,putRawsOf]
  exact Ev.neg (by omega) (Ev.done (by rw [show l.length = n by omega]))
 | cons x t ih =>
  intro n d h hn hd
  obtain ⟨h1,-,h4⟩:=drop_cons h
  have hx:=h3 x (List.mem_of_mem_drop (h ▸ List.mem_cons_self))
  refine Ev.step (fun _ => rfl) ?_
  simp only [spec_PutRaws.l0,rdT119_drop h,wrap64_succ (show n≤9223372036854775806 by omega)]
  rw [putRawsOf]
  refine Ev.pos (by omega) (Ev.pos (by omega) (Ev.bind (spec_PutRaw_ev d hd x hx) (Ev.ite (fun hc => ?_) (fun hc => Ev.done (by rw [if_neg hc])))))
  rw [if_pos hc]
  exact ih (n + 1) _ h4 (by omega) (putRaw1_ok hc)
def putRaws (d:List S122) (l:List S119):List S122×Int:=if (diskOk d && decide (l.length≤60)) = true then ((putRawsOf l d 0).1,((putRawsOf l d 0).2:Int)) else ([],0)
theorem spec_PutRaws_ev (d:List S122) (hd:d.length≤1048576) (l:List S119) (hl:l.length≤1048576) (h3:∀ r∈l,r.f3.size≤1000000000):Ev (fun k => spec_PutRaws.f k d l) (putRaws d l):=by
 have no:Ev (fun k => spec_PutRaws.j0 k l true d) ([],0):=by
  refine Ev.step (fun _ => rfl) ?_
  simp only [spec_PutRaws.j0]
  exact Ev.pos trivial (Ev.now _)
 unfold spec_PutRaws.f putRaws
 refine Ev.bind (spec_DiskOk_ev d hd) ?_
 cases hk:diskOk d
 ·exact Ev.neg (by simp) (Ev.eq no (by simp))
 refine Ev.pos rfl ?_
 by_cases hc:l.length≤60
 ·rw [decide_eq_false (show ¬ (l.length:Int) > 60 by omega),decide_eq_true hc]
  refine Ev.step (fun _ => rfl) ?_
  simp only [spec_PutRaws.j0]
  have hdl:=(diskOk_up hk).1
  refine Ev.neg (by simp) (Ev.call rfl (Ev.pos (by simp;omega) ?_))
  rw [List.nil_append]
  exact Ev.eq (spec_PutRaws_loop l hl h3 l 0 d rfl (by omega) hk) (by simp)
 ·rw [decide_eq_true (show (l.length:Int) > 60 by omega),decide_eq_false hc]
  exact Ev.eq no (by simp)
theorem impl_PutRaws_loop (l:List S119) (hl:l.length≤1048576) (h3:∀ r∈l,r.f3.size≤1000000000) (z:List S122):∀ (rest:List S119) (n:Nat) (d:List S122),l.drop n = rest→n≤l.length→diskOk d = true→Ev (fun k => impl_PutRaws.l0 k l l (l.length:Int) (n:Int) z d) ((putRawsOf rest d n).1,((putRawsOf rest d n).2:Int)):=by
 intro rest
 induction rest with
 | nil =>
  intro n d h hn hd
  have:=drop_nil h
  refine Ev.step (fun _ => rfl) ?_
  simp only [impl_PutRaws.l0,putRawsOf]
  exact Ev.neg (by omega) (Ev.done (by rw [show l.length = n by omega]))
 | cons x t ih =>
  intro n d h hn hd
  obtain ⟨h1,-,h4⟩:=drop_cons h
  have hx:=h3 x (List.mem_of_mem_drop (h ▸ List.mem_cons_self))
  refine Ev.step (fun _ => rfl) ?_
  simp only [impl_PutRaws.l0,rdT119_drop h,wrap64_succ (show n≤9223372036854775806 by omega)]
  rw [putRawsOf]
  refine Ev.pos (by omega) (Ev.pos (by omega) (Ev.pos (by omega) (Ev.bind (impl_PutRaw_ev d hd x hx) (Ev.ite (fun hc => ?_) (fun hc => Ev.done (by rw [if_neg hc]))))))
  rw [if_pos hc]
  exact ih (n + 1) _ h4 (by omega) (putRaw1_ok hc)
theorem impl_PutRaws_ev (d:List S122) (hd:d.length≤1048576) (l:List S119) (hl:l.length≤1048576) (h3:∀ r∈l,r.f3.size≤1000000000):Ev (fun k => impl_PutRaws.f k d l) (putRaws d l):=by
 unfold impl_PutRaws.f putRaws
 refine Ev.bind (impl_DiskOk_ev d hd) ?_
 cases hk:diskOk d
 ·exact Ev.neg (by simp) (Ev.done (by simp))
 refine Ev.pos rfl (Ev.ite (fun hc => Ev.done ?_) (fun hc => ?_))
 ·rw [decide_eq_false (show ¬ l.length≤60 by omega)];simp
 ·have hdl:=(diskOk_up hk).1
  rw [decide_eq_true (show l.length≤60 by omega)]
  refine Ev.call (by unfold impl_copyDisk.f;rw [if_pos (by omega),List.nil_append]) ?_
  exact Ev.eq (impl_PutRaws_loop l hl h3 [] l 0 d rfl (by omega) hk) (by simp)
def openIs (rb:RBf) (rm:RMf) (d:List S122) (s0:List Int) (a b c:Int) (s4:List Int) (dir:List S145) (st:Int):Bool :=
 decide ((shelfOf rb rm d).2.2.2.2.2.2.2.2 = 0) && (decide ((shelfOf rb rm d).2.2.2.2.2.2.2.1 = []) && shelfEq s0 a b c s4 dir st (shelfOf rb rm d).1 (shelfOf rb rm d).2.1 (shelfOf rb rm d).2.2.1 (shelfOf rb rm d).2.2.2.1 (shelfOf rb rm d).2.2.2.2.1 (shelfOf rb rm d).2.2.2.2.2.1 (shelfOf rb rm d).2.2.2.2.2.2.1)
theorem raws_nil {l:List S119}:(l.length:Int) = 0↔l = []:=by rw [←List.length_eq_zero_iff];omega
theorem spec_l09Clean_ev (rb:RBf) (hrb:∀ c,c.size≤9000→RB c (rb c)) (rm:RMf) (hrm:∀ s,s.size≤1000000→RM s (rm s)) (d:List S122) (hl:d.length≤1048576) (s0:List Int) (a b c:Int) (s4:List Int) (dir:List S145) (st:Int) (h0:s0.length≤1048576) (h4:s4.length≤1048576) (h5:dir.length≤1048576):Ev (fun k => spec_l09Clean.f k d s0 a b c s4 dir st) (openIs rb rm d s0 a b c s4 dir st):=by
 unfold spec_l09Clean.f openIs
 refine Ev.bind (spec_OpenShelf_ev rb hrb rm hrm d hl) (Ev.ite (fun e1 => Ev.ite (fun e2 => Ev.bind (spec_l09Same_ev s0 a b c s4 dir st _ _ _ _ _ _ _ (by omega) (by omega) (by omega)) (Ev.done ?_)) (fun e2 => Ev.done ?_)) (fun e1 => Ev.done ?_))
 ·rw [decide_eq_true e1,decide_eq_true (raws_nil.1 e2)];simp
 ·rw [decide_eq_false (fun h => e2 (raws_nil.2 h))];simp
 ·rw [decide_eq_false e1];simp
theorem impl_isOpen_ev (rb:RBf) (hrb:∀ c,c.size≤9000→RB c (rb c)) (rm:RMf) (hrm:∀ s,s.size≤1000000→RM s (rm s)) (d:List S122) (hl:d.length≤1048576) (s0:List Int) (a b c:Int) (s4:List Int) (dir:List S145) (st:Int):Ev (fun k => impl_isOpen.f k d s0 a b c s4 dir st) (openIs rb rm d s0 a b c s4 dir st):=by
 obtain ⟨w0,w4,w5,-⟩:=shelfOf_small (rb:=rb) hrm d
 unfold impl_isOpen.f openIs
 refine Ev.bind (impl_OpenShelf_ev rb hrb rm hrm d hl) (Ev.ite (fun e1 => Ev.ite (fun e2 => Ev.bind (impl_sameShelf_ev _ _ _ _ _ _ _ s0 a b c s4 dir st (by omega) (by omega) (by omega)) (Ev.done ?_)) (fun e2 => Ev.done ?_)) (fun e1 => Ev.done ?_))
 ·rw [decide_eq_true e1,decide_eq_true (raws_nil.1 e2),shelfEq_symm];simp
 ·rw [decide_eq_false (fun h => e2 (raws_nil.2 h))];simp
 ·rw [decide_eq_false e1];simp
abbrev Aft:=List Int×Int×Int×Int×List Int×List S145×Int×List S119×Bool
def noAft:Aft:=([],0,0,0,[],[],0,[],false)
def afterOf (rb:RBf) (rm:RMf) (d:List S122) (l:List S119):Aft :=
 if (putRaws d l).2 = (l.length:Int)∧(shelfOf rb rm (putRaws d l).1).2.2.2.2.2.2.2.2 = 0∧(shelfOf rb rm (putRaws d l).1).2.2.2.2.2.2.2.1 = [] then
  ((shelfOf rb rm (putRaws d l).1).1,(shelfOf rb rm (putRaws d l).1).2.1,(shelfOf rb rm (putRaws d l).1).2.2.1,(shelfOf rb rm (putRaws d l).1).2.2.2.1,(shelfOf rb rm (putRaws d l).1).2.2.2.2.1,(shelfOf rb rm (putRaws d l).1).2.2.2.2.2.1,(shelfOf rb rm (putRaws d l).1).2.2.2.2.2.2.1,l,true)
 else noAft
theorem putRawsOf_bounds:∀ (l:List S119) (d:List S122) (n:Nat),diskOk d = true→diskOk (putRawsOf l d n).1 = true∧(putRawsOf l d n).2≤n + l.length
 | [],d,n,h => ⟨h,by simp [putRawsOf]⟩
 | r::t,d,n,h => by
  rw [putRawsOf]
  split
  ·rename_i hc
   have:=putRawsOf_bounds t (putRaw1 d r).1 (n + 1) (putRaw1_ok hc)
   refine ⟨this.1,?_⟩
   have:=this.2
   simp only [List.length_cons];omega
  ·exact ⟨h,by simp⟩
theorem putRaws_bounds (d:List S122) (l:List S119):(putRaws d l).1.length≤30∧0≤(putRaws d l).2∧(putRaws d l).2≤(l.length:Int):=by
 unfold putRaws
 split
 ·rename_i h
  simp only [Bool.and_eq_true] at h
  obtain ⟨h1,h2⟩:=putRawsOf_bounds l d 0 h.1
  have:=(diskOk_up h1).1
  dsimp only
  omega
 ·simp
theorem spec_l09After_ev (rb:RBf) (hrb:∀ c,c.size≤9000→RB c (rb c)) (rm:RMf) (hrm:∀ s,s.size≤1000000→RM s (rm s)) (d:List S122) (hl:d.length≤1048576) (l:List S119) (hll:l.length≤1048576) (h3:∀ r∈l,r.f3.size≤1000000000):∃ z,Ev (fun k => spec_l09After.f k d l) z∧z.2.2.2.2.2.2.2 = (afterOf rb rm d l).2.2.2.2.2.2.2.2∧(z.2.2.2.2.2.2.2 = true→afterOf rb rm d l = (z.1,z.2.1,z.2.2.1,z.2.2.2.1,z.2.2.2.2.1,z.2.2.2.2.2.1,z.2.2.2.2.2.2.1,l,true)):=by
 obtain ⟨p1,p2,p3⟩:=putRaws_bounds d l
 have hp:=spec_PutRaws_ev d hl l hll h3
 have ho:=spec_OpenShelf_ev rb hrb rm hrm (putRaws d l).1 (by omega)
 unfold spec_l09After.f afterOf
 by_cases e1:(putRaws d l).2 = (l.length:Int)
 ·by_cases e2:(shelfOf rb rm (putRaws d l).1).2.2.2.2.2.2.2.2 = 0
  ·refine ⟨_,Ev.bind hp (Ev.pos e1 (Ev.bind ho (Ev.pos e2 (Ev.now _)))),?_,?_⟩
   ·by_cases e3:(shelfOf rb rm (putRaws d l).1).2.2.2.2.2.2.2.1 = []
    ·rw [if_pos ⟨e1,e2,e3⟩,e3];rfl
    ·rw [if_neg (fun h => e3 h.2.2)]
     show ((_:Int) == 0) = false
     rw [beq_eq_false_iff_ne]
     exact fun h => e3 (raws_nil.1 h)
   ·intro h
    have e3:=raws_nil.1 (by simpa using h)
    rw [if_pos ⟨e1,e2,e3⟩]
  ·refine ⟨_,Ev.bind hp (Ev.pos e1 (Ev.bind ho (Ev.neg e2 (Ev.now _)))),?_,fun h => by cases h⟩
   rw [if_neg (fun h => e2 h.2.1)];rfl
 ·refine ⟨_,Ev.bind hp (Ev.neg e1 (Ev.now _)),?_,fun h => by cases h⟩
  rw [if_neg (fun h => e1 h.1)];rfl
theorem impl_behind_ev (rb:RBf) (hrb:∀ c,c.size≤9000→RB c (rb c)) (rm:RMf) (hrm:∀ s,s.size≤1000000→RM s (rm s)) (d:List S122) (hl:d.length≤1048576) (l:List S119) (hll:l.length≤1048576) (h3:∀ r∈l,r.f3.size≤1000000000):Ev (fun k => impl_behind.f k d l) (afterOf rb rm d l):=by
 obtain ⟨p1,p2,p3⟩:=putRaws_bounds d l
 unfold impl_behind.f afterOf
 refine Ev.bind (impl_PutRaws_ev d hl l hll h3) (Ev.bind (impl_OpenShelf_ev rb hrb rm hrm (putRaws d l).1 (by omega)) (Ev.ite (fun e1 => Ev.done ?_) (fun e1 => Ev.ite (fun e2 => Ev.ite (fun e3 => Ev.done ?_) (fun e3 => Ev.done ?_)) (fun e2 => Ev.done ?_))))
 ·rw [if_neg (fun h => by have:=h.1;omega)];rfl
 ·rw [if_neg (fun h => by rw [h.2.2] at e3;simp at e3)];rfl
 ·rw [if_pos ⟨by omega,e2,raws_nil.1 (by omega)⟩]
 ·rw [if_neg (fun h => e2 h.2.1)];rfl
theorem openIs_good {rb:RBf} {rm:RMf} (hrm:∀ s,s.size≤1000000→RM s (rm s)) {d:List S122} {s0:List Int} {a b c:Int} {s4:List Int} {dir:List S145} {st:Int} (h:openIs rb rm d s0 a b c s4 dir st = true):diskOk d = true∧manOk s0 a b c s4 = true∧dirOk dir = true:=by
 unfold openIs at h
 simp only [Bool.and_eq_true,decide_eq_true_iff] at h
 obtain ⟨e1,e2,e3⟩:=h
 obtain ⟨g1,g2,g3⟩:=shelf_good hrm e1
 obtain ⟨-,q0,q1,q2,q3,q4,q5⟩:=shelfEq_true e3
 rw [←q0,←q1,←q2,←q3,←q4] at g2
 rw [←q5] at g3
 exact ⟨g1,g2,g3⟩
theorem manText_size {segs:List Int} {nx ba bt:Int} {cf:List Int}:(manText segs nx ba bt cf).1.size≤20004:=by
 unfold manText
 split
 ·unfold sealT
  split
  ·exact Nat.zero_le _
  ·have:=four_size (sumOf (strOfNums ((manNums segs nx ba bt cf).flatMap fun n => varL n.toNat)))
   dsimp only
   rw [size_append];omega
 ·exact Nat.zero_le _
theorem unfStep_fr {s:ByteArray} {a b:Int} {c:ByteArray} (h:unfStep s a = some (c,b)):(frame c).2 = true∧a + ((frame c).1.size:Int) = b∧s.extract a.toNat b.toNat = (frame c).1:=by
 obtain ⟨h0,h1,h2,-⟩:=unfStep_some h
 unfold unfStep at h
 split at h
 ·cases h
 split at h
 ·cases h
 split at h
 ·rename_i h3 h4 h5
  simp only [Option.some.injEq,Prod.mk.injEq] at h
  obtain ⟨e1,e2⟩:=h
  rw [e1] at h5
  rw [e2] at h5
  refine ⟨h5.1,?_,h5.2.symm⟩
  rw [h5.2,ByteArray.size_extract];omega
 ·cases h
theorem unfr_sum (s:ByteArray):∀ (m:Nat) (acc:List ByteArray) (a:Int) (l:List ByteArray),(unfr s m acc a).1 = acc++l→frSum a l = (unfr s m acc a).2
 | 0,acc,a,l,h => by
  rw [unfr] at h ⊢
  obtain rfl:l = []:=by simpa using h
  rfl
 | m + 1,acc,a,l,h => by
  rw [unfr] at h ⊢
  cases hs:unfStep s a with
  | none =>
   rw [hs] at h
   obtain rfl:l = []:=by simpa using h
   rfl
  | some x =>
   obtain ⟨c,b⟩:=x
   rw [hs] at h
   dsimp only at h ⊢
   obtain ⟨r,hr⟩:=unfr_acc s m (acc++[c]) b
   have hl:l = c::r:=by
    rw [hr,List.append_assoc] at h
    exact (List.append_cancel_left h).symm
   subst hl
   rw [←unfr_sum s m (acc++[c]) b r hr,frSum,(unfStep_fr hs).2.1]
theorem unframe_sum (s:ByteArray):frSum 0 (unframe s).1 = (unframe s).2∧(unframe s).2≤s.size:=by
 unfold unframe
 split
 ·exact ⟨rfl,by omega⟩
 ·obtain ⟨⟨-,h1⟩,-,-⟩:=unfr_bounds s (s.size + 1) [] 0 (by omega) (by omega) (by simp) (fun c hc => by cases hc)
  exact ⟨unfr_sum s _ [] 0 _ (by simp),h1⟩
def renewList (segs:List Int) (nx ba bt:Int) (cf:List Int):List S119:=[⟨1,⟨#[109,43]⟩,⟨#[]⟩,(manText segs nx ba bt cf).1⟩,⟨3,⟨#[109,43]⟩,⟨#[109]⟩,⟨#[]⟩⟩]
def dropRaws (segs:List Int):List S119:=segs.map fun n => ⟨4,segT n,⟨#[]⟩,⟨#[]⟩⟩
def mergedList (s0:List Int) (a:Int) (text:ByteArray) (base term:Int) (conf:List Int):List S119:=(⟨1,segT a,⟨#[]⟩,text⟩::renewList [a] (a + 1) base term conf)++dropRaws s0
def mergedOf (rb:RBf) (rm:RMf) (d:List S122) (s0:List Int) (a:Int) (text:ByteArray) (base term:Int) (conf:List Int):Aft :=
 if (manText [a] (a + 1) base term conf).2 = true then afterOf rb rm d (mergedList s0 a text base term conf) else noAft
theorem mergedOf_parts {base term:Int} {conf:List Int} {a:Int} (h:(manText [a] (a + 1) base term conf).2 = true):0≤a∧a≤999:=by
 have hk:manOk [a] (a + 1) base term conf = true:=by
  unfold manText at h
  split at h
  ·assumption
  ·cases h
 obtain ⟨-,b2,-,-,-,b6,-⟩:=manOk_bounds hk
 have:=b6 a List.mem_cons_self
 omega
theorem mergedList_small (s0:List Int) (h0:s0.length≤8) (a:Int) (text:ByteArray) (ht:text.size≤1000000000) (base term:Int) (conf:List Int):(mergedList s0 a text base term conf).length≤11∧∀ r∈mergedList s0 a text base term conf,r.f3.size≤1000000000:=by
 have hm:=manText_size (segs:=[a]) (nx:=a + 1) (ba:=base) (bt:=term) (cf:=conf)
 unfold mergedList renewList dropRaws
 refine ⟨by simp only [List.length_append,List.length_cons,List.length_nil,List.length_map];omega,fun r hr => ?_⟩
 rcases List.mem_append.1 hr with hr | hr
 ·simp only [List.mem_cons,List.not_mem_nil,or_false] at hr
  rcases hr with rfl | rfl | rfl
  ·exact ht
  ·dsimp only;omega
  ·exact Nat.zero_le _
 ·obtain ⟨n,-,rfl⟩:=List.mem_map.1 hr
  exact Nat.zero_le _
theorem renewed_ev (segs:List Int) (nx ba bt:Int) (cf:List Int) (hs:segs.length≤1000000) (hc:cf.length≤1048576):Ev (fun k => impl_renewed.f k segs nx ba bt cf) (renewList segs nx ba bt cf,(manText segs nx ba bt cf).2):=by
 unfold impl_renewed.f
 exact Ev.bind (impl_ManifestText_ev segs nx ba bt cf (by omega) (by omega)) (Ev.now _)
theorem impl_merged_loop (rb:RBf) (hrb:∀ c,c.size≤9000→RB c (rb c)) (rm:RMf) (hrm:∀ s,s.size≤1000000→RM s (rm s)) (d:List S122) (hl:d.length≤1048576) (s0:List Int) (h0:s0.length≤8) (L:List S119) (hL:L.length≤11∧∀ r∈L,r.f3.size≤1000000000):∀ (rest:List Int) (n:Nat) (acc:List S119),s0.drop n = rest→acc.length≤n + 3→n≤s0.length→acc++dropRaws rest = L→Ev (fun k => impl_merged.l0 k acc s0 (s0.length:Int) (n:Int) d [] 0 0 0 [] [] 0) (afterOf rb rm d L):=by
 intro rest
 induction rest with
 | nil =>
  intro n acc h ha hn e
  have:=drop_nil h
  have e:acc = L:=by rw [←e];simp [dropRaws]
  subst e
  refine Ev.step (fun _ => rfl) ?_
  simp only [impl_merged.l0]
  exact Ev.neg (by omega) (Ev.bind (impl_behind_ev rb hrb rm hrm d hl acc (by omega) hL.2) (Ev.now _))
 | cons x t ih =>
  intro n acc h ha hn e
  obtain ⟨h1,-,h3⟩:=drop_cons h
  refine Ev.step (fun _ => rfl) ?_
  simp only [impl_merged.l0,drop_rd h,wrap64_succ (show n≤9223372036854775806 by omega)]
  exact Ev.pos (by omega) (Ev.pos (by omega) (Ev.pos (by omega) (Ev.call (impl_SegName_eq _) (Ev.pos (by omega) (ih (n + 1) _ h3 (by simp;omega) (by omega) (by rw [←e];simp [dropRaws]))))))
theorem impl_merged_ev (rb:RBf) (hrb:∀ c,c.size≤9000→RB c (rb c)) (rm:RMf) (hrm:∀ s,s.size≤1000000→RM s (rm s)) (d:List S122) (hl:d.length≤1048576) (s0:List Int) (h0:s0.length≤8) (a b c:Int) (ha:0≤a∧a≤1000) (s4:List Int) (dir:List S145) (st:Int) (text:ByteArray) (ht:text.size≤1000000000) (base term:Int) (conf:List Int) (hc:conf.length≤1048576):Ev (fun k => impl_merged.f k d s0 a b c s4 dir st text base term conf) (mergedOf rb rm d s0 a text base term conf):=by
 unfold impl_merged.f mergedOf
 rw [wrap64_id (n:=a + 1) (by omega) (by omega)]
 refine Ev.pos (by omega) (Ev.bind (renewed_ev [a] (a + 1) base term conf (by simp) hc) (Ev.ite (fun e => ?_) (fun e => Ev.done ?_)))
 ·rw [if_pos e]
  refine Ev.call (impl_SegName_eq _) (Ev.pos (by simp [renewList]) ?_)
  exact impl_merged_loop rb hrb rm hrm d hl s0 h0 _ (mergedList_small s0 h0 a text ht base term conf) s0 0 _ rfl (by simp [renewList]) (by omega) rfl
 ·rw [if_neg e];rfl
theorem spec_l10New_loop (rb:RBf) (hrb:∀ c,c.size≤9000→RB c (rb c)) (rm:RMf) (hrm:∀ s,s.size≤1000000→RM s (rm s)) (d:List S122) (hl:d.length≤1048576) (s0:List Int) (h0:s0.length≤8) (a b c:Int) (s4:List Int) (dir:List S145) (st:Int) (L:List S119) (hL:L.length≤11∧∀ r∈L,r.f3.size≤1000000000):∀ (rest:List Int) (n:Nat) (acc:List S119),s0.drop n = rest→acc.length≤n + 3→n≤s0.length→acc++dropRaws rest = L→Ev (fun k => spec_l10New.l0 k acc (n:Int) d s0 a b c s4 dir st) (afterOf rb rm d L):=by
 intro rest
 induction rest with
 | nil =>
  intro n acc h ha hn e
  have:=drop_nil h
  have e:acc = L:=by rw [←e];simp [dropRaws]
  subst e
  obtain ⟨z,hz,hz1,hz2⟩:=spec_l09After_ev rb hrb rm hrm d hl acc (by omega) hL.2
  refine Ev.step (fun _ => rfl) ?_
  simp only [spec_l10New.l0]
  refine Ev.neg (by omega) (Ev.bind hz (Ev.ite (fun h => Ev.done (hz2 h).symm) (fun h => Ev.done ?_)))
  unfold afterOf at hz1 ⊢
  split at hz1
  ·exact absurd hz1 h
  ·rename_i hn;rw [if_neg hn];rfl
 | cons x t ih =>
  intro n acc h ha hn e
  obtain ⟨h1,-,h3⟩:=drop_cons h
  refine Ev.step (fun _ => rfl) ?_
  simp only [spec_l10New.l0,drop_rd h,wrap64_succ (show n≤9223372036854775806 by omega)]
  exact Ev.pos (by omega) (Ev.pos (by omega) (Ev.bind (spec_SegName_ev _) (Ev.pos (by omega) (ih (n + 1) _ h3 (by simp;omega) (by omega) (by rw [←e];simp [dropRaws])))))
theorem spec_l10New_ev (rb:RBf) (hrb:∀ c,c.size≤9000→RB c (rb c)) (rm:RMf) (hrm:∀ s,s.size≤1000000→RM s (rm s)) (d:List S122) (hl:d.length≤1048576) (s0:List Int) (h0:s0.length≤8) (a b c:Int) (ha:0≤a∧a≤1000) (s4:List Int) (dir:List S145) (st:Int) (text:ByteArray) (ht:text.size≤1000000000) (base term:Int) (conf:List Int) (hc:conf.length≤1048576):Ev (fun k => spec_l10New.f k d s0 a b c s4 dir st text base term conf) (mergedOf rb rm d s0 a text base term conf):=by
 unfold spec_l10New.f mergedOf
 rw [wrap64_id (n:=a + 1) (by omega) (by omega)]
 have no:∀ (l:List S119) (r:Aft),r = noAft→Ev (fun k => spec_l10New.j0 k text (segT a) l true d s0 a b c s4 dir st) r:=fun l r hr => by
  refine Ev.step (fun _ => rfl) ?_
  simp only [spec_l10New.j0]
  exact Ev.pos trivial (Ev.done hr.symm)
 have hn:Ev (fun k => spec_l09NewMan.f k [a] (a + 1) base term conf) (renewList [a] (a + 1) base term conf,(manText [a] (a + 1) base term conf).2):=by
  unfold spec_l09NewMan.f
  exact Ev.bind (spec_ManifestText_ev _ _ _ _ _ (by simp) (by omega)) (Ev.now _)
 refine Ev.bind (spec_SegName_ev a) (Ev.call rfl (Ev.pos (by simp;omega) (Ev.bind hn (Ev.ite (fun e => ?_) (fun e => ?_)))))
 ·rw [if_pos e]
  obtain ⟨g1,g2⟩:=mergedOf_parts e
  have hz:(segT a).size≠0:=by
   have h:=segT_size (n:=a.toNat) (by omega)
   rw [show ((a.toNat:Nat):Int) = a by omega] at h
   omega
  have hne:((segT a).toList == ([]:List UInt8)) = false:=by
   rw [beq_eq_false_iff_ne]
   exact fun h => hz (toList_nil.1 h)
  dsimp only
  rw [hne]
  refine Ev.step (fun _ => rfl) ?_
  simp only [spec_l10New.j0]
  refine Ev.neg (by simp) (Ev.call rfl (Ev.pos (by simp [renewList]) ?_))
  exact spec_l10New_loop rb hrb rm hrm d hl s0 h0 a b c s4 dir st _ (mergedList_small s0 h0 a text ht base term conf) s0 0 _ rfl (by simp [renewList]) (by omega) rfl
 ·rw [if_neg e];exact no _ _ rfl
theorem afterOf_small {rb:RBf} {rm:RMf} (hrm:∀ s,s.size≤1000000→RM s (rm s)) (d:List S122) (l:List S119):(afterOf rb rm d l).1.length≤8∧(afterOf rb rm d l).2.2.2.2.1.length≤4∧(afterOf rb rm d l).2.2.2.2.2.1.length≤60∧(afterOf rb rm d l).2.2.2.2.2.2.2.1.length≤l.length:=by
 obtain ⟨w0,w4,w5,-⟩:=shelfOf_small (rb:=rb) hrm (putRaws d l).1
 unfold afterOf
 split
 ·exact ⟨w0,w4,w5,Nat.le_refl _⟩
 ·simp [noAft]
theorem mergedOf_small {rb:RBf} {rm:RMf} (hrm:∀ s,s.size≤1000000→RM s (rm s)) (d:List S122) (s0:List Int) (h0:s0.length≤8) (a:Int) (text:ByteArray) (ht:text.size≤1000000000) (base term:Int) (conf:List Int):(mergedOf rb rm d s0 a text base term conf).1.length≤8∧(mergedOf rb rm d s0 a text base term conf).2.2.2.2.1.length≤4∧(mergedOf rb rm d s0 a text base term conf).2.2.2.2.2.1.length≤60∧(mergedOf rb rm d s0 a text base term conf).2.2.2.2.2.2.2.1.length≤11:=by
 unfold mergedOf
 split
 ·obtain ⟨g0,g4,g5,g7⟩:=afterOf_small (rb:=rb) hrm d (mergedList s0 a text base term conf)
  have:=(mergedList_small s0 h0 a text ht base term conf).1
  exact ⟨g0,g4,g5,by omega⟩
 ·simp [noAft]
def singleOf (rb:RBf) (t:ByteArray):Int×List S162×Bool:=match (unframe t).1 with
 | [c] => if (unframe t).2 = (t.size:Int) then rb c else (0,[],false)
 | _ => (0,[],false)
def installOf (rb:RBf) (rm:RMf) (d:List S122) (s0:List Int) (a b c:Int) (s4:List Int) (dir:List S145) (st:Int) (text:ByteArray) (base term:Int) (conf:List Int):Aft :=
 if (singleOf rb text).2.2 = true∧(singleOf rb text).1 = base∧¬ base < st∧openIs rb rm d s0 a b c s4 dir st = true then mergedOf rb rm d s0 a text base term conf else noAft
theorem singleOf_parts {rb:RBf} {t:ByteArray} (h:(singleOf rb t).2.2 = true):∃ c,(unframe t).1 = [c]∧(unframe t).2 = (t.size:Int)∧singleOf rb t = rb c:=by
 unfold singleOf at h ⊢
 split at h
 ·rename_i c hc
  by_cases e:(unframe t).2 = (t.size:Int)
  ·exact ⟨c,hc,e,by rw [if_pos e]⟩
  ·rw [if_neg e] at h;cases h
 ·cases h
theorem spec_l10Single_ev (rb:RBf) (hrb:∀ c,c.size≤9000→RB c (rb c)) (t:ByteArray):Ev (fun k => spec_l10Single.f k t) (singleOf rb t):=by
 obtain ⟨u1,u2⟩:=unframe_bounds t
 unfold spec_l10Single.f singleOf
 refine Ev.bind (spec_Unframe_ev t) ?_
 rcases hu:(unframe t).1 with _ | ⟨c,_ | ⟨c2,r⟩⟩
 ·exact Ev.neg (by simp) (Ev.now _)
 ·refine Ev.pos (by simp) (Ev.ite (fun e => ?_) (fun e => Ev.done (by dsimp only;rw [if_neg e])))
  dsimp only
  rw [if_pos e]
  exact Ev.pos (by simp) (Ev.bind (hrb c (u2 c (by rw [hu];exact List.mem_cons_self))).1 (Ev.now _))
 ·exact Ev.neg (by simp;omega) (Ev.now _)
theorem spec_InstallShelf_ev (rb:RBf) (hrb:∀ c,c.size≤9000→RB c (rb c)) (rm:RMf) (hrm:∀ s,s.size≤1000000→RM s (rm s)) (d:List S122) (hl:d.length≤1048576) (s0:List Int) (a b c:Int) (s4:List Int) (dir:List S145) (st:Int) (text:ByteArray) (ht:text.size≤1000000000) (base term:Int) (conf:List Int) (hc:conf.length≤1048576) (h0:s0.length≤1048576) (h4:s4.length≤1048576) (h5:dir.length≤1048576):Ev (fun k => spec_InstallShelf.f k d s0 a b c s4 dir st text base term conf) (installOf rb rm d s0 a b c s4 dir st text base term conf):=by
 unfold spec_InstallShelf.f installOf
 refine Ev.bind (spec_l10Single_ev rb hrb text) (Ev.ite (fun e1 => Ev.ite (fun e2 => Ev.ite (fun e3 => Ev.done ?_) (fun e3 => Ev.bind (spec_l09Clean_ev rb hrb rm hrm d hl s0 a b c s4 dir st h0 h4 h5) (Ev.ite (fun e4 => ?_) (fun e4 => Ev.done ?_)))) (fun e2 => Ev.done ?_)) (fun e1 => Ev.done ?_))
 ·rw [if_neg (fun h => h.2.2.1 e3)];rfl
 ·rw [if_pos ⟨e1,e2,e3,e4⟩]
  obtain ⟨g1,g2,g3⟩:=openIs_good hrm e4
  obtain ⟨b1,b2,-,-,b5,-,-⟩:=manOk_bounds g2
  exact Ev.bind (spec_l10New_ev rb hrb rm hrm d hl s0 (by omega) a b c (by omega) s4 dir st text ht base term conf hc) (Ev.now _)
 ·rw [if_neg (fun h => e4 h.2.2.2)];rfl
 ·rw [if_neg (fun h => e2 h.2.1)];rfl
 ·rw [if_neg (fun h => e1 h.1)];rfl
theorem unframe_frames (s:ByteArray):∀ c∈(unframe s).1,1≤(frame c).1.size:=by
 have h:∀ (m:Nat) (acc:List ByteArray) (a:Int),(∀ c∈acc,1≤(frame c).1.size)→∀ c∈(unfr s m acc a).1,1≤(frame c).1.size:=by
  intro m
  induction m with
  | zero => intro acc a h;exact h
  | succ m ih =>
   intro acc a h
   rw [unfr]
   cases hs:unfStep s a with
   | none => exact h
   | some x =>
    obtain ⟨c,b⟩:=x
    obtain ⟨-,h1,-,-⟩:=unfStep_some hs
    have h2:=(unfStep_fr hs).2.1
    refine ih _ _ (fun y hy => ?_)
    rcases List.mem_append.1 hy with hy | hy
    ·exact h y hy
    ·obtain rfl:=List.mem_singleton.1 hy;omega
 unfold unframe
 split
 ·intro c hc;cases hc
 ·exact h _ [] 0 (fun c hc => by cases hc)
theorem pieces_one (rb:RBf) (t:ByteArray):((piecesOf rb 0 (unframe t).1).length = 1∧endOn rb 0 (unframe t).1 = (t.size:Int))↔(singleOf rb t).2.2 = true:=by
 obtain ⟨u1,u2⟩:=unframe_sum t
 have u3:=unframe_frames t
 unfold singleOf
 rcases hu:(unframe t).1 with _ | ⟨c,_ | ⟨c2,r⟩⟩
 ·simp [piecesOf]
 ·rw [hu] at u1
  simp only [frSum,piecesOf,endOn] at u1 ⊢
  by_cases hc:(rb c).2.2 = true
  ·rw [if_pos hc,if_pos hc]
   by_cases e:(unframe t).2 = (t.size:Int)
   ·rw [if_pos e];exact ⟨fun _ => hc,fun _ => ⟨rfl,by omega⟩⟩
   ·rw [if_neg e];exact ⟨fun h => absurd (by omega) e,fun h => by cases h⟩
  ·rw [if_neg hc,if_neg hc]
   refine ⟨fun h => by simp at h,fun h => ?_⟩
   split at h
   ·exact absurd h hc
   ·cases h
 ·rw [hu] at u1 u3
  dsimp only
  refine ⟨fun ⟨h1,h2⟩ => ?_,fun h => by cases h⟩
  exfalso
  have k2:=u3 c2 (List.mem_cons_of_mem _ List.mem_cons_self)
  have kg:=(frSum_ge r (0 + ((frame c).1.size:Int) + ((frame c2).1.size:Int))).1
  simp only [frSum] at u1
  simp only [piecesOf,endOn] at h1 h2
  by_cases hc:(rb c).2.2 = true
  ·rw [if_pos hc] at h1 h2
   by_cases hc2:(rb c2).2.2 = true
   ·rw [if_pos hc2] at h1;simp at h1
   ·rw [if_neg hc2] at h2;omega
  ·rw [if_neg hc] at h1;simp at h1
theorem pieces_head {rb:RBf} {t:ByteArray} (h:(singleOf rb t).2.2 = true):(rd_T113 (piecesOf rb 0 (unframe t).1) 0).f0.f0 = (singleOf rb t).1:=by
 obtain ⟨c,hc,-,e⟩:=singleOf_parts h
 rw [e] at h ⊢
 rw [hc,piecesOf,if_pos h]
 rfl
theorem impl_InstallShelf_ev (rb:RBf) (hrb:∀ c,c.size≤9000→RB c (rb c)) (rm:RMf) (hrm:∀ s,s.size≤1000000→RM s (rm s)) (d:List S122) (hl:d.length≤1048576) (s0:List Int) (a b c:Int) (s4:List Int) (dir:List S145) (st:Int) (text:ByteArray) (ht:text.size≤1000000000) (base term:Int) (conf:List Int) (hc:conf.length≤1048576):Ev (fun k => impl_InstallShelf.f k d s0 a b c s4 dir st text base term conf) (installOf rb rm d s0 a b c s4 dir st text base term conf):=by
 have hp:=pieces_one rb text
 have hh:=fun h => pieces_head (rb:=rb) (t:=text) h
 unfold impl_InstallShelf.f installOf
 refine Ev.bind (impl_batchesOf_ev rb hrb text) (Ev.bind (impl_isOpen_ev rb hrb rm hrm d hl s0 a b c s4 dir st) (Ev.ite (fun e1 => Ev.ite (fun e2 => Ev.done ?_) (fun e2 => Ev.ite (fun e3 => Ev.ite (fun e4 => Ev.pos (by omega) ?_) (fun e4 => Ev.done ?_)) (fun e3 => Ev.done ?_))) (fun e1 => Ev.done ?_)))
 ·rw [if_neg (fun h => h.2.2.1 e2)];rfl
 ·have hs:=hp.1 ⟨by have e3':((piecesOf rb 0 (unframe text).1).length:Int) = 1:=e3;omega,e4⟩
  rw [hh hs]
  refine Ev.ite (fun e5 => ?_) (fun e5 => Ev.done ?_)
  ·rw [if_pos ⟨hs,e5,e2,e1⟩]
   obtain ⟨g1,g2,g3⟩:=openIs_good hrm e1
   obtain ⟨b1,b2,-,-,b5,-,-⟩:=manOk_bounds g2
   exact Ev.bind (impl_merged_ev rb hrb rm hrm d hl s0 (by omega) a b c (by omega) s4 dir st text ht base term conf hc) (Ev.now _)
  ·rw [if_neg (fun h => e5 h.2.1)];rfl
 ·rw [if_neg (fun h => e4 (hp.2 h.1).2)];rfl
 ·rw [if_neg (fun h => e3 (show ((piecesOf rb 0 (unframe text).1).length:Int) = 1 by have:=(hp.2 h.1).1;omega))];rfl
 ·rw [if_neg (fun h => e1 h.2.2.2)];rfl
theorem installOf_small {rb:RBf} {rm:RMf} (hrm:∀ s,s.size≤1000000→RM s (rm s)) (d:List S122) (s0:List Int) (a b c:Int) (s4:List Int) (dir:List S145) (st:Int) (text:ByteArray) (ht:text.size≤1000000000) (base term:Int) (conf:List Int):(installOf rb rm d s0 a b c s4 dir st text base term conf).1.length≤8∧(installOf rb rm d s0 a b c s4 dir st text base term conf).2.2.2.2.1.length≤4∧(installOf rb rm d s0 a b c s4 dir st text base term conf).2.2.2.2.2.1.length≤60∧(installOf rb rm d s0 a b c s4 dir st text base term conf).2.2.2.2.2.2.2.1.length≤11:=by
 unfold installOf
 split
 ·rename_i h
  obtain ⟨-,g2,-⟩:=openIs_good hrm h.2.2.2
  have:=(manOk_bounds g2).1
  exact mergedOf_small hrm d s0 (by omega) a _ ht base term conf
 ·simp [noAft]
theorem FnExactInstallShelf_q (l:List S171) (s0:List Int) (a b c:Int) (s4:List Int) (dir:List S173) (a6:Int) (text:ByteArray) (base term:Int) (cf:List Int) (q:l.length * 32≤140737488351232∧∀ x∈l,x.f0.size≤140737488351232∧x.f1.size≤140737488351232)
  (q':((s0.length * 8≤140737488351232∧∀ x∈s0,(Lit.int .i64 x).wf = true)∧(Lit.int .i64 a).wf = true∧(Lit.int .i64 b).wf = true∧(Lit.int .i64 c).wf = true∧(s4.length * 8≤140737488351232∧∀ x∈s4,(Lit.int .i64 x).wf = true)) ∧
   (dir.length * 40≤140737488351232∧∀ x∈dir,x.f0.size≤140737488351232∧(Lit.int .i64 x.f1).wf = true∧(Lit.int .i64 x.f2).wf = true∧(Lit.int .i64 x.f3).wf = true)∧(Lit.int .i64 a6).wf = true)
  (qt:text.size≤140737488351232) (_:(Lit.int .i64 base).wf = true) (_:(Lit.int .i64 term).wf = true) (qc:cf.length * 8≤140737488351232∧∀ x∈cf,(Lit.int .i64 x).wf = true) :
  ∃ k,laws_FnExactInstallShelf.f k l s0 a b c s4 dir a6 text base term cf = some true:=by
 obtain ⟨⟨⟨q0,-⟩,-,-,-,q4,-⟩,⟨q5,q6⟩,-⟩:=q'
 apply Ev.rounds
 unfold laws_FnExactInstallShelf.f
 refine Ev.ite (fun _ => Ev.now _) (fun hnt => Ev.ite (fun _ => Ev.now _) (fun hn0 => ?_))
 obtain ⟨r,hr,hb⟩:=laws_szDisk_ev l (by omega) q.2 1048576 (by omega) (by omega)
 refine Ev.bind hr (Ev.ite (fun _ => Ev.now _) (fun hn => ?_))
 have hb:=hb hn
 obtain ⟨r2,hr2,hb2⟩:=laws_szShelf_ev s0 a b c s4 dir a6 r (by omega) (by omega) (by omega) (by omega) (by omega) (fun x hx => (q6 x hx).1)
 refine Ev.bind hr2 (Ev.ite (fun _ => Ev.now _) (fun hn2 => ?_))
 have hb2:=hb2 hn2
 have hl:l.length≤1048576:=by omega
 have h0:s0.length≤1048576:=by omega
 have h4:s4.length≤1048576:=by omega
 have h5:dir.length≤1048576:=by omega
 have hlm:(l.map toFile).length≤1048576:=by simp only [List.length_map];omega
 have hdm:(dir.map toSpot).length≤1048576:=by simp only [List.length_map];omega
 have tl:=laws_toDisk_ev l hl
 have ts:=laws_toShelf_ev s0 a b c s4 dir a6 h0 h4 h5
 have tb:=laws_toIntS_ev cf (by omega)
 obtain ⟨rb,hrb⟩:=rb_all
 obtain ⟨rm,hrm⟩:=rm_all
 have hs:=spec_InstallShelf_ev rb hrb rm hrm (l.map toFile) hlm s0 a b c s4 (dir.map toSpot) a6 text (by omega) base term cf (by omega) h0 h4 hdm
 have hi:=impl_InstallShelf_ev rb hrb rm hrm (l.map toFile) hlm s0 a b c s4 (dir.map toSpot) a6 text (by omega) base term cf (by omega)
 obtain ⟨w0,w4,w5,w7⟩:=installOf_small (rb:=rb) hrm (l.map toFile) s0 a b c s4 (dir.map toSpot) a6 text (by omega) base term cf
 generalize installOf rb rm (l.map toFile) s0 a b c s4 (dir.map toSpot) a6 text base term cf = w at hs hi w0 w4 w5 w7
 obtain ⟨z0,za,zb,zc,z4,zdir,zs,raws,code⟩:=w
 dsimp only at w0 w4 w5 w7
 have e0:=laws_eqDisk_refl (l.map toFile) (by omega)
 have es:=laws_eqShelf_refl s0 a b c s4 (dir.map toSpot) a6 (by omega) (by omega) (by omega)
 have eb:=laws_eqIntS_refl cf (by omega)
 have e1:=laws_eqShelf_refl z0 za zb zc z4 zdir zs (by omega) (by omega) (by omega)
 have e2:=laws_eqRawS_refl raws (by omega)
 have k0:=laws_markDisk_ev (l.map toFile) 1 (by omega) (by omega) (by omega)
 have k1:=laws_markShelf_ev s0 a b c s4 (dir.map toSpot) a6 (1 + 2 * ((l.map toFile).length:Int)) (by omega) (by omega)
 have k2:=laws_markIntS_ev cf (1 + 2 * ((l.map toFile).length:Int) + (s0.length:Int) + (s4.length:Int) + 4 * ((dir.map toSpot).length:Int)) (by omega) (by omega) (by omega)
 have g1:=laws_markShelf_ev z0 za zb zc z4 zdir zs 1 (by omega) (by omega)
 have g2:=laws_markRawS_ev raws (1 + (z0.length:Int) + (z4.length:Int) + 4 * (zdir.length:Int)) (by omega) (by omega) (by omega)
 have h1:=laws_heldShelf_ev 1 z0.length z4.length za zb zc zs zdir (by omega) (by omega)
 have h2:=laws_heldRawS_ev raws (1 + (z0.length:Int) + (z4.length:Int) + 4 * (zdir.length:Int)) (by omega) (by omega) (by omega)
 repeat first
  | exact Ev.now _
  | (with_reducible refine Ev.bind tl ?_)
  | (with_reducible refine Ev.bind ts ?_)
  | (with_reducible refine Ev.bind tb ?_)
  | (with_reducible refine Ev.bind hs ?_)
  | (with_reducible refine Ev.bind hi ?_)
  | (with_reducible refine Ev.bind e0 ?_)
  | (with_reducible refine Ev.bind es ?_)
  | (with_reducible refine Ev.bind eb ?_)
  | (with_reducible refine Ev.bind e1 ?_)
  | (with_reducible refine Ev.bind e2 ?_)
  | (with_reducible refine Ev.bind k0 ?_)
  | (with_reducible refine Ev.bind k1 ?_)
  | (with_reducible refine Ev.bind k2 ?_)
  | (with_reducible refine Ev.bind g1 ?_)
  | (with_reducible refine Ev.bind g2 ?_)
  | (with_reducible refine Ev.bind h1 ?_)
  | (with_reducible refine Ev.bind h2 ?_)
  | (with_reducible refine Ev.pos rfl ?_)
  | ((with_reducible refine Ev.neg ?a ?_);case a => first | omega | (dsimp only;omega) | (simp;done))
end Go.Ep
