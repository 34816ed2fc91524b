/- An abstract run of a Go function's code, and that it is sound. No conditions but those that each statement names. By this repo's programs; comments are taken out. -/
import Derived.Laws.StructEq
import Derived.LoopN
import Derived.Test.YtlmicldpfnmeaaaGreatDoorVFnComesBackEb
set_option linter.all false
namespace Go.Ev
section
variable {P:Program} {T:TBs} {tab:Tr} {w0:World} {gp:Gh} {obp:Nat→Option Ob} {g g':Gh} {w w':World} {a:Act} {s:St} {o:Oper}
theorem run_call {c:Call} (ho:o.op = .call c) {q:Operand} (hc:c.callee = .value q) {f:FuncId} {caps:Array Value} (hq:a.eval q = .func (.func f) #[] caps) (hf:Z76 P f) :
  (execOp a.eval o).run P w = .ok (.enter f (c.args.map a.eval++caps)) w:=by
 obtain ⟨fn,h1,h2,h3⟩:=hf
 unfold execOp
 simp only [ho,resolve,hc,hq,Deferred.ofValue,Sem.run_bind,Sem.run_pure,Result.andThen_ok,invoke,callFunc,Array.empty_append]
 have hp:(program:Sem Program).run P w = .ok P w:=rfl
 simp only [hp,Result.andThen_ok,h1,h2,h3,Bool.false_eq_true,if_false,Sem.run_pure]
theorem Za9 (hI:Inv T w0 gp obp g w a s) {c:Call} (ho:o.op = .call c) {q:Operand} (hc:c.callee = .value q) {f:FuncId} {caps:Array Value} (hq:a.eval q = .func (.func f) #[] caps) {vs:List AV}
  (hlen:vs.length = (c.args.map a.eval++caps).size)
  {v:AV} {ch:List (Nat×Ob)} (hrep':∀ G',Inv T w0 gp obp ⟨g.blk,g.top,G'⟩ w a ⟨s.sl,updCh ((Z2z (reach s.ob 64 (vs.flatMap (root1 (tab.mode f))) []) vs).flatMap (Z0A s.ob)) s.ob⟩→∀ k x,vs[k]? = some x→Rep w ⟨g.blk,g.top,G'⟩ (updCh ((Z2z (reach s.ob 64 (vs.flatMap (root1 (tab.mode f))) []) vs).flatMap (Z0A s.ob)) s.ob) ((c.args.map a.eval++caps).toList.getD k undef) x)
  (h:(Z7K tab s o.dst f vs).sem (F0 P T) (fun v' ch' => v' = v∧ch' = ch)):Good P T w0 gp obp w a s o v ch:=by
 unfold Z7K at h
 generalize hhs:reach s.ob 64 (vs.flatMap (root1 (tab.mode f))) [] = hs at h hrep'
 simp only at h
 split at h
 ·rename_i as ins has hins
  split at h
  ·rename_i hnd
   have hnd:=Z4v hnd
   obtain ⟨r,news,outs,hcon,h⟩:=h
   simp only at h
   split at h
   ·rename_i hok
    simp only [Bool.and_eq_true,decide_eq_true_eq] at hok
    obtain ⟨⟨hfree,hn16⟩,hlo⟩:=hok
    have hlo:=Nat.eq_of_beq_eq_true hlo
    obtain ⟨rfl,rfl⟩:=h
    obtain ⟨G',hF,hFl,hFe⟩:=hI.freeze' (Z2z hs vs)
    have hrepF:=hrep' G' hF
    have hsame:∀ p∈hs,updCh ((Z2z hs vs).flatMap (Z0A s.ob)) s.ob p = s.ob p:=fun p hp => by
     rw [Z5C,if_neg]
     intro hm
     unfold Z2z at hm
     rw [List.mem_filter] at hm
     rw [Z8D.2 hp] at hm
     simp at hm
    have hinsF:inOs (tab.mode f) hs (updCh ((Z2z hs vs).flatMap (Z0A s.ob)) s.ob) hs = some ins:=by
     have key:∀ (l:List Nat),(∀ p∈l,p∈hs)→inOs (tab.mode f) hs (updCh ((Z2z hs vs).flatMap (Z0A s.ob)) s.ob) l = inOs (tab.mode f) hs s.ob l:=by
      intro l
      induction l with
      | nil => intro _;rfl
      | cons p l ih =>
       intro hl
       unfold inOs
       rw [ih (fun q hq => hl q (List.mem_cons_of_mem _ hq))]
       have:inO (tab.mode f) hs (updCh ((Z2z hs vs).flatMap (Z0A s.ob)) s.ob) p = inO (tab.mode f) hs s.ob p:=by
        unfold inO;rw [hsame p (hl p List.mem_cons_self)]
       rw [this]
     rw [key hs (fun _ h => h)];exact hins
    have hasF:args1 (tab.mode f) hs (updCh ((Z2z hs vs).flatMap (Z0A s.ob)) s.ob) vs = some as:=by
     have c1:∀ x,argC (tab.mode f) hs (updCh ((Z2z hs vs).flatMap (Z0A s.ob)) s.ob) x = argC (tab.mode f) hs s.ob x:=fun x => by
      cases x <;> try rfl
      rename_i p
      simp only [argC]
      split
      ·rfl
      ·rw [Z5C]
       by_cases hm:p∈Z2z hs vs
       ·rw [if_pos hm]
        cases hp:s.ob p with
        | none => rfl
        | some y => cases y <;> rfl
       ·rw [if_neg hm]
     have c2:∀ l,argsC (tab.mode f) hs (updCh ((Z2z hs vs).flatMap (Z0A s.ob)) s.ob) l = argsC (tab.mode f) hs s.ob l:=by
      intro l
      induction l with
      | nil => rfl
      | cons x l ih => unfold argsC;rw [c1,ih]
     have c3:∀ x,arg1 (tab.mode f) hs (updCh ((Z2z hs vs).flatMap (Z0A s.ob)) s.ob) x = arg1 (tab.mode f) hs s.ob x:=fun x => by
      cases x <;> simp only [arg1,c1,c2]
     have c4:∀ l,args1 (tab.mode f) hs (updCh ((Z2z hs vs).flatMap (Z0A s.ob)) s.ob) l = args1 (tab.mode f) hs s.ob l:=by
      intro l
      induction l with
      | nil => rfl
      | cons x l ih => unfold args1;rw [c3,ih]
     rw [c4];exact has
    obtain ⟨hal,har⟩:=args1_rep (s:=⟨s.sl,updCh ((Z2z hs vs).flatMap (Z0A s.ob)) s.ob⟩) hF.obs hinsF (fun k => (c.args.map a.eval++caps).toList.getD k undef) hasF (fun q hq hn z e sh rows hz => by
     refine ZdJ (l:=Z2z hs vs) (q:=q) ?_ z e sh rows hz
     unfold Z2z
     rw [List.mem_filter]
     refine ⟨hq,?_⟩
     cases hh:hasN hs q with
     | false => rfl
     | true => exact absurd (Z8D.1 hh) hn) hrepF
    intro Q
    unfold Oper.wp
    rw [run_call ho hc hq hcon.1]
    show Calls P f (c.args.map a.eval++caps) w _
    have hCalls:=hcon.2 w (gIn ⟨g.blk,g.top,G'⟩ hs) (c.args.map a.eval++caps).toList hF.gz (T.ext hF.ext hF.tb0) (by rw [Array.length_toList];omega) (fun p x hp => ins_rep (s:=⟨s.sl,updCh ((Z2z hs vs).flatMap (Z0A s.ob)) s.ob⟩) hF.obs hinsF hp) (ins_inj hF hinsF hnd) har
    rw [Array.toArray_toList] at hCalls
    refine Calls.mono hCalls (fun e w' he => ?_)
    obtain ⟨v,g',rfl,hR⟩:=he
    by_cases hfl:ZdG r news outs = true
    ·have:=call_inv hI (Gc:=G') hins hnd (fun b => ?_) (fun p hp x b hx hb => ?_) hR hfree hlo hn16 (.inl hfl) o.dst
     ·have e:Z9T s.ob hs (Z2z hs vs) (callB o.dst) r news outs = Z6A hs (callB o.dst) hs outs++Z6B hs (callB o.dst) 0 news:=by
       unfold Z9T;rw [if_pos hfl,List.append_nil]
      rw [e];exact this
     ·exact hFl b
     ·exact hFe p x b (fun hm => by unfold Z2z at hm;rw [List.mem_filter,Z8D.2 hp] at hm;simp at hm) hx hb
    ·have:=call_inv hF (Gc:=G') hinsF hnd (fun b => Nat.le_refl _) (fun p hp x b hx hb => rfl) hR (by
      have:∀ n k,Z4s s.ob (callB o.dst) k n = true→Z4s (updCh ((Z2z hs vs).flatMap (Z0A s.ob)) s.ob) (callB o.dst) k n = true:=by
       intro n
       induction n with
       | zero => intro k _;rfl
       | succ n ih =>
        intro k h
        simp only [Z4s,Bool.and_eq_true,Option.isNone_iff_eq_none] at h ⊢
        refine ⟨?_,ih _ h.2⟩
        rw [Z5C,h.1];split <;> rfl
      exact this _ _ hfree) hlo hn16 (.inr rfl) o.dst
     have e:Z9T s.ob hs (Z2z hs vs) (callB o.dst) r news outs = (Z6A hs (callB o.dst) hs outs++Z6B hs (callB o.dst) 0 news)++(Z2z hs vs).flatMap (Z0A s.ob):=by
      unfold Z9T;rw [if_neg hfl,List.append_assoc]
     rw [e]
     unfold St.put at this ⊢
     rw [upd_app]
     exact this
   ·exact h.elim
  ·exact h.elim
 ·exact h.elim
theorem Rep.arr {ob:Nat→Option Ob} {xs ys:List AV} {A C:Array Value} (hA:A.size = xs.length) (hx:∀ k x,xs[k]? = some x→Rep w g ob (A.getD k undef) x) (hy:∀ k x,ys[k]? = some x→Rep w g ob (C.getD k undef) x):∀ k x,(xs++ys)[k]? = some x→Rep w g ob ((A++C).toList.getD k undef) x:=by
 intro k x hk
 rw [List.getElem?_append] at hk
 have e:(A++C).toList.getD k undef = if k < A.size then A.getD k undef else C.getD (k - A.size) undef:=by
  simp only [Array.toList_append,List.getD_eq_getElem?_getD,Array.getD_eq_getD_getElem?,List.getElem?_append,Array.length_toList,Array.getElem?_toList]
  split <;> rfl
 rw [e,hA]
 split at hk
 ·rename_i h;rw [if_pos h];exact hx k x hk
 ·rename_i h;rw [if_neg h];exact hy _ x hk
theorem good_call (hI:Inv T w0 gp obp g w a s) {c:Call} (ho:o.op = .call c) {q:Operand} (hc:c.callee = .value q) {v:AV} {ch:List (Nat×Ob)} (h:(opAct (F0 P T) tab s o).sem (F0 P T) (fun v' ch' => v' = v∧ch' = ch)):Good P T w0 gp obp w a s o v ch:=by
 unfold opAct at h
 simp only [ho,hc] at h
 have hargs:∀ {g1:Gh} {s1:St},Inv T w0 gp obp g1 w a s1→s1.sl = s.sl→∀ k x,(Z4n tab c.argTypes.toList (c.args.toList.map s.eval))[k]? = some x→Rep w g1 s1.ob ((c.args.map a.eval).getD k undef) x:=fun {g1 s1} hI1 hs1 => by
  refine tyFixs_rep _ _ _ (fun k x hk => ?_)
  rw [List.getElem?_map,Option.map_eq_some_iff] at hk
  obtain ⟨y,hy,rfl⟩:=hk
  have e:(c.args.map a.eval).getD k undef = a.eval y:=by
   rw [Array.getD_eq_getD_getElem?,Array.getElem?_map]
   simp at hy;simp [hy]
  rw [e]
  have e2:s.eval y = s1.eval y:=by cases y <;> simp only [St.eval,hs1]
  rw [e2];exact hI1.eval y
 have hsz:(c.args.map a.eval).size = (Z4n tab c.argTypes.toList (c.args.toList.map s.eval)).length:=by rw [Z8M];simp
 have hqr:=hI.eval q
 split at h
 ·rename_i f eq
  rw [eq] at hqr
  have hq:a.eval q = .func (.func f) #[] #[]:=by
   generalize a.eval q = u at hqr
   cases hqr;rfl
  refine Za9 hI ho hc hq (by simp [hsz]) (fun G' hF k x hk => ?_) h
  have:=Rep.arr (C:=#[]) (ys:=[]) hsz (hargs hF rfl) (fun k x h => by simp at h) k x (by simpa using hk)
  exact this
 ·rename_i f cs eq
  have hq':=hqr
  rw [eq] at hq'
  obtain ⟨caps,hq,hcl,hcr⟩:=hq'
  split at h
  rotate_left
  ·exact h.elim
  refine Za9 hI ho hc hq (by simp [hsz,hcl]) (fun G' hF k x hk => ?_) h
  have hqF:=hF.eval q
  have e2:(⟨s.sl,updCh ((Z2z (reach s.ob 64 ((Z4n tab c.argTypes.toList (c.args.toList.map s.eval)++cs).flatMap (root1 (tab.mode f))) []) (Z4n tab c.argTypes.toList (c.args.toList.map s.eval)++cs)).flatMap (Z0A s.ob)) s.ob⟩:St).eval q = s.eval q:=by cases q <;> rfl
  rw [e2,eq] at hqF
  obtain ⟨caps',hq2,_,hcr2⟩:=hqF
  rw [hq] at hq2
  simp only [Value.func.injEq,true_and] at hq2
  obtain rfl:=hq2
  exact Rep.arr hsz (hargs hF rfl) (fun k x hk => Z0S (hcr2 k x hk)) k x hk
 ·exact h.elim
def valOf:CV→Value
 | .int k n => .int k n | .bool b => .bool b | .str s => .string s | _ => undef
def eqV:List CV→List CV→Bool
 | [],[] => true
 | .int _ a::x,.int _ b::y => cmpI .eql a b && eqV x y
 | .str a::x,.str b::y => cmpS .eql a b && eqV x y
 | .bool a::x,.bool b::y => cmpB .eql a b && eqV x y
 | _,_ => false
theorem eqV_app:∀ {x y x' y':List CV},x.length = y.length→eqV (x++x') (y++y') = (eqV x y && eqV x' y')
 | [],[],_,_,_ => by simp [eqV]
 | a::x,b::y,x',y',h => by
  have ih:=eqV_app (x:=x) (y:=y) (x':=x') (y':=y') (by simpa using h)
  cases a <;> cases b <;> simp [eqV,ih,Bool.and_assoc]
 | [],_::_,_,_,h => by simp at h
 | _::_,[],_,_,h => by simp at h
theorem ZaR {P:Program} {T:TBs}:∀ {sh:List Sh} {a b:List AV} {x y:List CV} {r:Bool},Z3Z sh a = true→a = x.map .c→b = y.map .c→Z5E (F0 P T) a b = some r→r = eqV x y
 | _,[],[],[],[],r,_,_,_,h => by simp only [Z5E,Option.some.injEq] at h;simp [eqV,←h]
 | [],_::_,_,_,_,_,h,_,_,_ => by simp [Z3Z] at h
 | s::sh,a::as,bs,x::xs,ys,r,h0,ha,hb,h => by
  simp only [List.map_cons,List.cons.injEq] at ha
  obtain ⟨rfl,rfl⟩:=ha
  simp only [Z3Z,Bool.and_eq_true] at h0
  cases ys with
  | nil => subst hb;cases x <;> simp [Z5E] at h
  | cons y ys =>
   subst hb
   cases x <;> cases y <;> simp only [List.map_cons,Z5E,Option.map_eq_some_iff] at h <;> first | (cases h;done) | skip
   all_goals
    obtain ⟨r',h1,rfl⟩:=h
    have:=ZaR h0.2 rfl rfl h1
    subst this
    rfl
 | _,[],_::_,[],y::ys,_,_,_,_,h => by simp [Z5E] at h
 | _,[],[],[],_::_,_,_,_,h,_ => by simp at h
 | _,[],_::_,[],[],_,_,_,h,_ => by simp at h
 | _,[],_,_::_,_,_,_,h,_,_ => by simp at h
 | _,_::_,_,[],_,_,_,h,_,_ => by simp at h
def Fits (sh:List Sh) (xs:List CV):Prop:=xs.map CV.sh = sh
theorem run_part {t:TypeId} {i:TypeInfo} (hi:P.info? t = some i) {d:TypeDesc} (hd:P.underlying t = some d) (cs:Array Value) (off:Nat) (hle:off + i.size≤cs.size) (h1:d.isRow = false→i.size = 1) :
  (part t cs off).run P w = .ok (if d.isRow then .agg (cs.extract off (off + i.size)) else cs.getD off undef) w:=by
 have hagg:(isAgg t).run P w = .ok d.isRow w:=by
  unfold isAgg
  rw [Sem.run_bind,run_underlying hd w]
  cases d <;> rfl
 have hs:(sizeOf t).run P w = .ok i.size w:=by simp [sizeOf,typeInfo,hi]
 unfold part
 rw [Sem.run_bind,hagg]
 cases hr:d.isRow with
 | true => simp [hs]
 | false =>
  have:=h1 hr
  have hlt:off < cs.size:=by omega
  simp [hlt]
theorem eqTy_desc:∀ {d:Nat} {t:TypeId} {sh:List Sh},eqTy P d t sh = true→∃ D,P.underlying t = some D∧(D.isRow = false→sh.length = 1)
 | 0,_,_,h => by simp [eqTy] at h
 | d + 1,t,sh,h => by
  unfold eqTy at h
  split at h
  ·rename_i hu;exact ⟨_,hu,fun _ => rfl⟩
  ·rename_i hu;exact ⟨_,hu,fun _ => rfl⟩
  ·rename_i hu;exact ⟨_,hu,fun _ => rfl⟩
  ·rename_i fs sh' hu;exact ⟨_,hu,fun h => by cases h⟩
  ·cases h
def packV (row:Bool) (xs:List CV):Value:=if row then .agg (xs.map valOf).toArray else valOf (xs.headD (.bool false))
theorem eq_fields {R:TypeId→List Sh→Bool} {n:Nat} (hR:∀ t sh,R t sh = true→∃ D,P.underlying t = some D∧(D.isRow = false→sh.length = 1)∧∀ xs ys,Fits sh xs→Fits sh ys→(Op.equalIn n t (packV D.isRow xs) (packV D.isRow ys)).run P w = .ok (eqV xs ys) w) (A B:Array Value) :
  ∀ (fs:List Field) (off:Nat) (sh:List Sh) (xs ys:List CV),eqFld P R fs off sh = true→Fits sh xs→Fits sh ys→A.toList.drop off = xs.map valOf→B.toList.drop off = ys.map valOf→(Op.eqFields n A B fs).run P w = .ok (eqV xs ys) w
 | [],off,[],xs,ys,_,hx,hy,_,_ => by
  have e1:xs = []:=List.map_eq_nil_iff.1 hx
  have e2:ys = []:=List.map_eq_nil_iff.1 hy
  subst e1;subst e2
  simp [Op.eqFields,eqV]
 | [],_,_::_,_,_,h,_,_,_,_ => by simp [eqFld] at h
 | f::fs,off,sh,xs,ys,h,hx,hy,hA,hB => by
  simp only [eqFld,Bool.and_eq_true,bne_iff_ne,beq_iff_eq] at h
  obtain ⟨⟨hn,ho⟩,h⟩:=h
  split at h
  ·rename_i i hi
   simp only [Bool.and_eq_true,decide_eq_true_eq] at h
   obtain ⟨⟨hle,hr⟩,hrest⟩:=h
   obtain ⟨D,hD,h1,heq⟩:=hR _ _ hr
   have lx:xs.length = sh.length:=by rw [←hx,List.length_map]
   have ly:ys.length = sh.length:=by rw [←hy,List.length_map]
   have h1':D.isRow = false→i.size = 1:=fun h => by have:=h1 h;rw [List.length_take] at this;omega
   have part_:∀ (C:Array Value) (zs:List CV),zs.length = sh.length→C.toList.drop off = zs.map valOf→(part f.type C f.offset).run P w = .ok (packV D.isRow (zs.take i.size)) w:=fun C zs hz hC => by
    have hsz:off + sh.length≤C.size∨sh.length = 0:=by
     have:=congrArg List.length hC
     simp only [List.length_drop,List.length_map,Array.length_toList] at this
     omega
    by_cases h0:sh.length = 0
    ·have hi0:i.size = 0:=by omega
     have hDr:D.isRow = true:=by
      cases hd:D.isRow with
      | true => rfl
      | false => have:=h1' hd;omega
     have hagg:(isAgg f.type).run P w = .ok true w:=by
      unfold isAgg
      rw [Sem.run_bind,run_underlying hD w]
      cases D <;> simp_all [TypeDesc.isRow]
     have hs:(sizeOf f.type).run P w = .ok i.size w:=by simp [sizeOf,typeInfo,hi]
     unfold part
     rw [Sem.run_bind,hagg,hDr]
     simp [hs,hi0,packV]
     exact Nat.min_le_left _ _
    ·have hsz:off + sh.length≤C.size:=by omega
     rw [ho,run_part hi hD C off (by omega) h1']
     cases hDr:D.isRow with
     | true =>
      simp only [packV,if_true]
      congr 2
      apply Array.ext'
      rw [Array.toList_extract,List.extract_eq_take_drop,hC,←List.map_take]
      simp
     | false =>
      have hi1:=h1' hDr
      simp only [packV,Bool.false_eq_true,if_false]
      congr 1
      cases zs with
      | nil => simp at hz;omega
      | cons z zs =>
       rw [hi1]
       have h3:C.toList[off]? = some (valOf z):=by
        have:=congrArg (fun l => l[0]?) hC
        simpa using this
       simp at h3
       simp [h3]
   have fx:Fits (sh.take i.size) (xs.take i.size):=by unfold Fits;rw [List.map_take,hx]
   have fy:Fits (sh.take i.size) (ys.take i.size):=by unfold Fits;rw [List.map_take,hy]
   have gx:Fits (sh.drop i.size) (xs.drop i.size):=by unfold Fits;rw [List.map_drop,hx]
   have gy:Fits (sh.drop i.size) (ys.drop i.size):=by unfold Fits;rw [List.map_drop,hy]
   have ih:=eq_fields hR A B fs (off + i.size) (sh.drop i.size) (xs.drop i.size) (ys.drop i.size) hrest gx gy (by rw [←List.drop_drop,hA,List.map_drop]) (by rw [←List.drop_drop,hB,List.map_drop])
   have split_:eqV xs ys = (eqV (xs.take i.size) (ys.take i.size) && eqV (xs.drop i.size) (ys.drop i.size)):=by
    rw [←eqV_app (by rw [List.length_take,List.length_take];omega),List.take_append_drop,List.take_append_drop]
   simp only [Op.eqFields,hn,ne_eq,not_false_eq_true,if_true,Sem.run_bind,part_ A xs lx hA,part_ B ys ly hB,Result.andThen_ok,heq _ _ fx fy]
   rw [split_]
   cases eqV (xs.take i.size) (ys.take i.size) with
   | true => simp [ih]
   | false => simp
  ·cases h
theorem eqTy_run:∀ (d n:Nat) (t:TypeId) (sh:List Sh),eqTy P d t sh = true→∃ D,P.underlying t = some D∧(D.isRow = false→sh.length = 1)∧∀ xs ys,Fits sh xs→Fits sh ys→(Op.equalIn (d + n) t (packV D.isRow xs) (packV D.isRow ys)).run P w = .ok (eqV xs ys) w
 | 0,_,_,_,h => by simp [eqTy] at h
 | d + 1,n,t,sh,h => by
  obtain ⟨D,hD,hl⟩:=eqTy_desc h
  refine ⟨D,hD,hl,fun xs ys hx hy => ?_⟩
  rw [show d + 1 + n = (d + n) + 1 by omega]
  have one:∀ {q:Sh} {zs:List CV},Fits [q] zs→∃ z,zs = [z]∧z.sh = q:=fun {q zs} hz => by
   match zs,hz with
   | [z],hz => simp only [Fits,List.map_cons,List.map_nil,List.cons.injEq,and_true] at hz;exact ⟨z,rfl,hz⟩
   | [],hz => simp [Fits] at hz
   | _::_::_,hz => simp [Fits] at hz
  unfold eqTy at h
  split at h
  ·rename_i hu
   rw [hD] at hu;obtain rfl:=Option.some.inj hu
   obtain ⟨x,rfl,h1⟩:=one hx
   obtain ⟨y,rfl,h2⟩:=one hy
   cases x <;> simp only [CV.sh,reduceCtorEq] at h1
   cases y <;> simp only [CV.sh,reduceCtorEq] at h2
   simp only [TypeDesc.isRow,packV,Bool.false_eq_true,if_false,List.headD_cons,valOf,run_equalIn_bool' _ _ t _ _ hD,eqV,cmpB,Bool.and_true]
  ·rename_i k k' hu
   rw [hD] at hu;obtain rfl:=Option.some.inj hu
   obtain ⟨x,rfl,h1⟩:=one hx
   obtain ⟨y,rfl,h2⟩:=one hy
   cases x <;> simp only [CV.sh,reduceCtorEq,Sh.int.injEq] at h1
   cases y <;> simp only [CV.sh,reduceCtorEq,Sh.int.injEq] at h2
   subst h1;subst h2
   simp only [TypeDesc.isRow,packV,Bool.false_eq_true,if_false,List.headD_cons,valOf,run_equalIn_int _ _ t _ _ _ _ hD,eqV,cmpI,Bool.and_true]
  ·rename_i hu
   rw [hD] at hu;obtain rfl:=Option.some.inj hu
   obtain ⟨x,rfl,h1⟩:=one hx
   obtain ⟨y,rfl,h2⟩:=one hy
   cases x <;> simp only [CV.sh,reduceCtorEq] at h1
   cases y <;> simp only [CV.sh,reduceCtorEq] at h2
   simp only [TypeDesc.isRow,packV,Bool.false_eq_true,if_false,List.headD_cons,valOf,run_equalIn_string _ _ t _ _ hD,eqV,cmpS,Bool.and_true]
  ·rename_i sh' fs hu
   rw [hD] at hu;obtain rfl:=Option.some.inj hu
   simp only [Bool.and_eq_true,Bool.not_eq_true'] at h
   obtain ⟨⟨hst,_⟩,hf⟩:=h
   have hfo:P.fieldsOf t = fs:=by unfold Program.fieldsOf;rw [hD]
   simp only [TypeDesc.isRow,packV,if_true]
   rw [run_equalIn_agg _ _ t _ _ (by rw [hfo];exact hD) hst,hfo]
   exact eq_fields (fun t sh hR => eqTy_run d n t sh hR) _ _ fs.toList 0 _ xs ys hf hx hy (by simp) (by simp)
  ·cases h
theorem Z9x {G:Nat→Nat} {v:Value} {cv:CV} (h:RepC w G v cv) (hs:∀ s r,cv≠.sl s r) (hf:∀ f,cv≠.fn f):v = valOf cv:=by
 cases h with
 | int k n => rfl
 | bool b => rfl
 | str s => rfl
 | fn f => exact absurd rfl (hf f)
 | sl A c sh rows val b o hc hsh hA hr hv => exact absurd rfl (hs _ _)
theorem Zb7:∀ {sh:List Sh} {a:List AV},Z3Z sh a = true→∃ xs:List CV,a = xs.map .c∧Fits sh xs
 | [],[],_ => ⟨[],rfl,rfl⟩
 | s::sh,.c v::cs,h => by
  simp only [Z3Z,Bool.and_eq_true] at h
  obtain ⟨xs,rfl,h2⟩:=Zb7 h.2
  have:[s] = [v.sh]:=Z9u (by simp [shsB,h.1])
  refine ⟨v::xs,rfl,?_⟩
  unfold Fits at h2 ⊢
  rw [List.map_cons,h2,←(List.cons.inj this).1]
 | [],_::_,h => by simp [Z3Z] at h
 | _::_,[],h => by simp [Z3Z] at h
 | _::_,.tt::_,h | _::_,.ff::_,h | _::_,.nil _::_,h | _::_,.ptr _ _::_,h | _::_,.own _::_,h | _::_,.elp _ _ _ _::_,h | _::_,.elo _ _ _::_,h | _::_,.ifc _::_,h | _::_,.clo _ _::_,h | _::_,.agg _::_,h | _::_,.tup _::_,h | _::_,.dead::_,h => by simp [Z3Z] at h
theorem eqFld_sh {R:TypeId→List Sh→Bool} (hR:∀ t sh,R t sh = true→sh.all nosl = true):∀ (fs:List Field) (off:Nat) (sh:List Sh),eqFld P R fs off sh = true→sh.all nosl = true
 | [],_,[],_ => rfl
 | [],_,_::_,h => by simp [eqFld] at h
 | f::fs,off,sh,h => by
  simp only [eqFld,Bool.and_eq_true] at h
  obtain ⟨_,h⟩:=h
  split at h
  ·rename_i i hi
   simp only [Bool.and_eq_true] at h
   rw [←List.take_append_drop i.size sh,List.all_append,hR _ _ h.1.2,eqFld_sh hR fs _ _ h.2];rfl
  ·cases h
theorem eqTy_sh:∀ (d:Nat) (t:TypeId) (sh:List Sh),eqTy P d t sh = true→sh.all nosl = true
 | 0,_,_,h => by simp [eqTy] at h
 | d + 1,t,sh,h => by
  unfold eqTy at h
  split at h <;> first | rfl | cases h | skip
  simp only [Bool.and_eq_true] at h
  exact eqFld_sh (fun t sh h => eqTy_sh d t sh h) _ _ _ h.2
theorem good_binOp (hT:TabOk P tab) (hI:Inv T w0 gp obp g w a s) {op:BinOp} {t t':TypeId} {x y:Operand} (ho:o.op = .binOp op t x y t') {v:AV} {ch:List (Nat×Ob)} (h:(opAct (F0 P T) tab s o).sem (F0 P T) (fun v' ch' => v' = v∧ch' = ch)):Good P T w0 gp obp w a s o v ch:=by
 unfold opAct at h
 simp only [ho] at h
 have hx:=hI.eval x
 have hy:=hI.eval y
 have run:∀ r:Value,(eqGuard op t x y (a.eval x) (a.eval y) >>= fun _ => binOp op t (a.eval x) (a.eval y)).run P w = .ok r w→(execOp a.eval o).run P w = .ok (.value r) w:=by
  intro r hr
  unfold execOp
  simp only [ho,Sem.run_bind,Sem.run_pure] at hr ⊢
  rw [hr];rfl
 split at h
 ·rename_i as bs ex ey
  rw [ex] at hx;rw [ey] at hy
  have key:∀ sh r,Z5E (F0 P T) as bs = some r→(eqTy P 20 t sh = true∧P.eqGuardType P.depth t = false∧isStr P t = true∧Z3Z sh as = true∧Z3Z sh bs = true) →
    (eqGuard op t x y (a.eval x) (a.eval y)).run P w = .ok () w∧(Op.equalIn 10000 t (a.eval x) (a.eval y)).run P w = .ok r w∧∃ A B,a.eval x = .agg A∧a.eval y = .agg B:=fun sh r hr hc => by
   obtain ⟨h1,h2,h2',h3,h4⟩:=hc
   obtain ⟨xs,rfl,fx⟩:=Zb7 h3
   obtain ⟨ys,rfl,fy⟩:=Zb7 h4
   obtain ⟨A,hA,lA,cA⟩:=hx
   obtain ⟨B,hB,lB,cB⟩:=hy
   have hsl:=eqTy_sh _ _ _ h1
   have toV:∀ (C:Array Value) (zs:List CV),Fits sh zs→C.size = (zs.map AV.c).length→(∀ k c,(zs.map AV.c)[k]? = some c→Rep0 w g s.ob (C.getD k undef) c)→C = (zs.map valOf).toArray:=fun C zs fz hl hc => by
    apply Array.ext'
    apply List.ext_getElem?
    intro k
    simp only [List.getElem?_map]
    cases hz:zs[k]? with
    | none =>
     have:zs.length≤k:=List.getElem?_eq_none_iff.1 hz
     simp at hl
     simp;omega
    | some z =>
     have hk:=(List.getElem?_eq_some_iff.1 hz).1
     have h5:=hc k (.c z) (by rw [List.getElem?_map,hz];rfl)
     have h6:sh[k]? = some z.sh:=by rw [←fz,List.getElem?_map,hz];rfl
     have h7:=List.all_eq_true.1 hsl _ (List.mem_of_getElem? h6)
     have h8:=Z9x h5 (fun s' r' e => by rw [e] at h7;simp [CV.sh,nosl] at h7) (fun f e => by rw [e] at h7;simp [CV.sh,nosl] at h7)
     simp at hl
     have hkC:k < C.size:=by omega
     simp only [Option.map_some]
     rw [←h8]
     simp [hkC]
   have eA:=toV A xs fx lA cA
   have eB:=toV B ys fy lB cB
   obtain ⟨D,hD,hl,hrun⟩:=eqTy_run (P:=P) (w:=w) 20 9980 t sh h1
   have hreq:=ZaR (P:=P) (T:=T) h3 rfl rfl hr
   refine ⟨by rw [hA,hB];exact run_eqGuard_agg _ op t x y A B h2,?_,A,B,hA,hB⟩
   have hDr:D.isRow = true:=by
    unfold isStr at h2'
    rw [hD] at h2'
    split at h2'
    ·rename_i e;cases e;rfl
    ·cases h2'
   have:=hrun xs ys fx fy
   rw [hDr] at this
   rw [hA,hB,eA,eB,hreq]
   simpa [packV] using this
  split at h
  ·rename_i sh r htab hr
   obtain ⟨hc,rfl,rfl⟩:=h
   obtain ⟨h1,h2,A,B,hA,hB⟩:=key _ _ hr hc
   refine ZG hI (run (.bool r) ?_) (RepC.bool _)
   rw [Sem.run_bind,h1,Result.andThen_ok,hA,hB,run_eql_struct]
   rw [hA,hB] at h2
   rw [h2];rfl
  ·rename_i sh r htab hr
   obtain ⟨hc,rfl,rfl⟩:=h
   obtain ⟨h1,h2,A,B,hA,hB⟩:=key _ _ hr hc
   refine ZG hI (run (.bool (!r)) ?_) (RepC.bool _)
   rw [Sem.run_bind,h1,Result.andThen_ok,hA,hB,run_neq_struct]
   rw [hA,hB] at h2
   rw [h2];rfl
  ·exact h.elim
 ·rename_i b ex ey
  rw [ex] at hx;rw [ey] at hy
  have hv:a.eval y = .nilIface:=hy.1 rfl
  split at h
  ·rename_i c
   obtain ⟨ht,rfl,rfl⟩:=h
   refine ZG hI (run (.bool b) ?_) (RepC.bool _)
   have:=ZaQ (P:=P) (w:=w) .eql t x (.const c) c rfl b (a.eval x) hx ht (.inl rfl)
   rw [hv];exact this
  ·rename_i c
   obtain ⟨ht,rfl,rfl⟩:=h
   refine ZG hI (run (.bool (!b)) ?_) (RepC.bool _)
   have:=ZaQ (P:=P) (w:=w) .neq t x (.const c) c rfl b (a.eval x) hx ht (.inr rfl)
   rw [hv];exact this
  ·exact h.elim
 ·split at h
  ·rename_i k0 sz0 by0 sh0 p q htab hp hq
   obtain ⟨rfl,rfl⟩:=h
   rw [Z6T hp hx,Z6T hq hy] at run
   exact ZG hI (run _ (Zaf t x y p q (ti_bool (hT _ _ htab) rfl)).1) (RepC.bool _)
  ·rename_i k0 sz0 by0 sh0 p q htab hp hq
   obtain ⟨rfl,rfl⟩:=h
   rw [Z6T hp hx,Z6T hq hy] at run
   exact ZG hI (run _ (Zaf t x y p q (ti_bool (hT _ _ htab) rfl)).2) (RepC.bool _)
  ·exact good_binOp0 hI ho h
theorem op_good (hT:TabOk P tab) (hI:Inv T w0 gp obp g w a s) {v:AV} {ch:List (Nat×Ob)} (h:(opAct (F0 P T) tab s o).sem (F0 P T) (fun v' ch' => v' = v∧ch' = ch)):Good P T w0 gp obp w a s o v ch:=by
 cases ho:o.op with
 | move x =>
  have h':=h
  unfold opAct at h'
  simp only [ho] at h'
  obtain ⟨rfl,rfl⟩:=h'
  exact good_move hI (.inl ho)
 | assign x =>
  have h':=h
  unfold opAct at h'
  simp only [ho] at h'
  obtain ⟨rfl,rfl⟩:=h'
  exact good_move hI (.inr ho)
 | pick c x y => exact good_pick hI ho h
 | alloc e => exact good_alloc hT hI ho h
 | box e x => exact good_box hI ho h
 | build t parts => exact good_build hT hI ho h
 | buildSlice t len parts => exact Zbx hT hI ho h
 | load t x => exact good_load hT hI ho h
 | store t x y => exact good_store hT hI ho h
 | nilCheck x => exact ZdZ hI ho h
 | binOp op t x y t' => exact good_binOp hT hI ho h
 | unOp u t x => exact good_unOp hI ho h
 | convert t t' x => exact good_convert hT hI ho h
 | slice t x lo hi mx =>
  cases mx with
  | none => exact good_slice hT hI ho h
  | some _ => unfold opAct at h;simp only [ho] at h;exact h.elim
 | fieldAddr t x f => exact Zcu hT hI ho h
 | indexAddr t x i => exact Zcx hT hI ho h
 | index t x i => exact good_index hT hI ho h
 | extract x i => exact good_extract hI ho h
 | makeFunc f first caps => exact Zdr hI ho h
 | makeSlice t x y => exact Zcv hT hI ho h
 | call c =>
  cases hc:c.callee with
  | value q => exact good_call hI ho hc h
  | invoke _ _ => unfold opAct at h;simp only [ho,hc] at h;exact h.elim
  | builtin b =>
   cases b with
   | len => exact good_len hT hI ho hc h
   | append => exact good_append hT hI ho hc h
   | max => exact good_max hI ho hc h
   | min => exact good_min hI ho hc h
   | _ => unfold opAct at h;simp only [ho,hc] at h;exact h.elim
 | _ => unfold opAct at h;simp only [ho] at h;exact h.elim
end
end Go.Ev
namespace Go.Ev
section
variable {ob ob':Nat→Option Ob}
theorem Zaj {x:AV} (h:∀ q∈idsC x,ob q = ob' q):Z9Q ob x = Z9Q ob' x:=by
 cases x <;> first | rfl | (simp only [Z9Q];rw [h _ (by simp [idsC])])
theorem Z8c:∀ {l:List AV},(∀ q∈l.flatMap idsC,ob q = ob' q)→Z6J ob l = Z6J ob' l
 | [],_ => rfl
 | x::l,h => by
  unfold Z6J
  rw [Zaj (fun q hq => h q (by simp [hq])),Z8c (fun q hq => h q (by rw [List.flatMap_cons];exact List.mem_append_right _ hq))]
theorem Ze3 {x:AV}:∀ q∈idsC x,q∈idsA x:=by
 cases x <;> simp [idsC,idsA,ids1]
theorem ZdF {x:AV}:∀ q∈owns x,q∈idsC x:=by cases x <;> simp [owns,idsC]
theorem owns1_sub {x:AV}:∀ q∈owns1 x,q∈idsA x:=by
 intro q hq
 cases x <;> simp only [owns1,idsA,ids1] at hq ⊢ <;> first
  | exact ZdF q hq
  | (rw [List.mem_flatMap] at hq ⊢;obtain ⟨c,h1,h2⟩:=hq;exact ⟨c,h1,ZdF q h2⟩)
  | (simp [owns] at hq)
theorem Z6E {l:List Nat} (h:∀ q∈l,ob q = ob' q):l.flatMap (Z0A ob) = l.flatMap (Z0A ob'):=by
 rw [List.flatMap_def,List.flatMap_def]
 exact congrArg _ (List.map_congr_left (fun q hq => by unfold Z0A;rw [h q hq]))
theorem frz_congr {l m:List Nat} (hl:∀ q∈l,ob q = ob' q) (hm:∀ q∈m,ob q = ob' q):∀ q∈m,updCh (l.flatMap (Z0A ob)) ob q = updCh (l.flatMap (Z0A ob')) ob' q:=fun q hq => by
 rw [Z5C,Z5C,hm q hq]
theorem Z60 {x:AV} (h:∀ q∈idsA x,ob q = ob' q):cellsOf ob x = cellsOf ob' x:=by
 cases x <;> simp only [cellsOf] <;> first
  | rw [Z8c (fun q hq => h q (by simpa [idsA,ids1] using hq))]
  | rw [Zaj (fun q hq => h q (Ze3 q hq))]
theorem Z55 {x:AV} (h:∀ q∈idsA x,ob q = ob' q):rowOf ob x = rowOf ob' x:=by
 cases x with
 | own o => simp only [rowOf];rw [h _ (by simp [idsA,ids1,idsC])]
 | c v => cases v <;> rfl
 | _ => rfl
theorem Zak {x:AV} (h:∀ q∈idsC x,ob q = ob' q):Z7m ob x = Z7m ob' x:=by
 cases x <;> first | rfl | (simp only [Z7m];rw [h _ (by simp [idsC])])
theorem plainV_congr {x:AV} (h:∀ q∈idsA x,ob q = ob' q):Z5l ob x = Z5l ob' x:=by
 cases x <;> simp only [Z5l] <;> first
  | rfl
  | exact Zak (fun q hq => h q (Ze3 q hq))
  | (congr 1;exact List.map_congr_left (fun c hc => Zak (fun q hq => h q (by simp only [idsA,ids1,List.mem_flatMap];exact ⟨c,hc,hq⟩))))
theorem plainA_ids (x:AV):∀ q∈idsC (Z7m ob x),q∈idsC x:=by
 intro q hq
 cases x <;> simp only [Z7m] at hq <;> first | exact hq | skip
 split at hq <;> cases hq
theorem plainV_ids (x:AV):∀ q∈idsA (Z5l ob x),q∈idsA x:=by
 intro q hq
 cases x with
 | agg cs =>
  simp only [Z5l,idsA,ids1,List.mem_flatMap,List.mem_map] at hq ⊢
  obtain ⟨c,⟨c0,h1,rfl⟩,h2⟩:=hq
  exact ⟨c0,h1,plainA_ids c0 q h2⟩
 | own o =>
  simp only [Z5l,Z7m] at hq
  split at hq <;> simp [idsA,ids1,idsC] at hq
 | _ => exact hq
theorem Zbm:∀ (sh:List Sh) (cs:List AV),(Z36 sh cs).flatMap idsC = cs.flatMap idsC
 | [],cs => by simp [Z36]
 | q::sh,[] => by simp [Z36]
 | q::sh,c::cs => by
  have:=Zbm sh cs
  unfold Z36
  split
  ·rename_i h1 h2
   simp only [List.cons.injEq] at h1 h2
   obtain ⟨rfl,rfl⟩:=h1
   obtain ⟨rfl,rfl⟩:=h2
   simp [this,idsC]
  ·rename_i h1 h2
   simp only [List.cons.injEq] at h1 h2
   obtain ⟨rfl,rfl⟩:=h1
   obtain ⟨rfl,rfl⟩:=h2
   simp [this]
  ·rename_i x2;exact absurd rfl (x2 q sh c cs rfl)
theorem Z6M (tab:Tr) (t:TypeId) (x:AV):idsA (tyFix tab t x) = idsA x:=by
 cases x <;> simp only [tyFix] <;> try rfl
 ·split <;> rfl
 ·split
  ·simp only [idsA,ids1,Zbm]
  ·rfl
theorem ZcH (tab:Tr):∀ (ts:List TypeId) (vs:List AV),(Z4n tab ts vs).flatMap idsA = vs.flatMap idsA
 | [],vs => by cases vs <;> rfl
 | t::ts,[] => rfl
 | t::ts,v::vs => by simp [Z4n,Z6M,ZcH tab ts vs]
theorem Z7t (pl:List (Nat×Nat)) (tab:Tr):∀ (parts:List (Nat×AV)) (cs:List AV),(∀ q∈parts.flatMap (fun p => idsA p.2),ob q = ob' q)→fillA pl tab ob cs parts = fillA pl tab ob' cs parts
 | [],cs,_ => by simp [fillA]
 | (i,v)::r,cs,h => by
  unfold fillA
  split
  ·rename_i off t _
   rw [Z60 (ob:=ob) (ob':=ob') (x:=tyFix tab t v) (fun q hq => h q (by rw [Z6M] at hq;simp [hq]))]
   split
   ·split
    ·exact Z7t pl tab r _ (fun q hq => h q (by rw [List.flatMap_cons];exact List.mem_append_right _ hq))
    ·rfl
   ·rfl
  ·rfl
theorem ZcL {m:Bool} {hs:List Nat} {x:AV} (h:∀ q∈idsC x,ob q = ob' q):argC m hs ob x = argC m hs ob' x:=by
 cases x <;> try rfl
 rename_i q
 simp only [argC]
 rw [h q (by simp [idsC])]
theorem ZbI {m:Bool} {hs:List Nat}:∀ {l:List AV},(∀ q∈l.flatMap idsC,ob q = ob' q)→argsC m hs ob l = argsC m hs ob' l
 | [],_ => rfl
 | x::l,h => by
  unfold argsC
  rw [ZcL (fun q hq => h q (by simp [hq])),ZbI (fun q hq => h q (by rw [List.flatMap_cons];exact List.mem_append_right _ hq))]
theorem arg1_congr {m:Bool} {hs:List Nat} {x:AV} (h:∀ q∈idsA x,ob q = ob' q):arg1 m hs ob x = arg1 m hs ob' x:=by
 cases x <;> simp only [arg1] <;> first
  | rw [ZbI (fun q hq => h q (by simpa [idsA,ids1] using hq))]
  | exact ZcL (fun q hq => h q (by simpa [idsA,ids1] using hq))
  | rfl
theorem ZbH {m:Bool} {hs:List Nat}:∀ {l:List AV},(∀ q∈l.flatMap idsA,ob q = ob' q)→args1 m hs ob l = args1 m hs ob' l
 | [],_ => rfl
 | x::l,h => by
  unfold args1
  rw [arg1_congr (fun q hq => h q (by simp [hq])),ZbH (fun q hq => h q (by rw [List.flatMap_cons];exact List.mem_append_right _ hq))]
theorem ZcK {m:Bool} {hs:List Nat}:∀ {l:List Nat},(∀ q∈l,ob q = ob' q)→inOs m hs ob l = inOs m hs ob' l
 | [],_ => rfl
 | x::l,h => by
  unfold inOs inO
  rw [h x List.mem_cons_self,ZcK (fun q hq => h q (List.mem_cons_of_mem _ hq))]
theorem Z9H (ob:Nat→Option Ob):∀ (n:Nat) (l seen:List Nat),∀ q∈seen,q∈reach ob n l seen
 | 0,_,_,_,h => h
 | n + 1,[],_,_,h => h
 | n + 1,o::r,seen,q,h => by
  unfold reach
  split
  ·exact Z9H ob n r seen q h
  ·exact Z9H ob n _ _ q (List.mem_append_left _ h)
theorem Z64:∀ (n:Nat) (l seen:List Nat),(∀ q∈reach ob n l seen,ob q = ob' q)→reach ob n l seen = reach ob' n l seen
 | 0,_,_,_ => rfl
 | n + 1,[],_,_ => rfl
 | n + 1,o::r,seen,h => by
  unfold reach at h ⊢
  split
  ·rename_i hs;rw [if_pos hs] at h;exact Z64 n r seen h
  ·rename_i hs
   rw [if_neg hs] at h
   have ho:ob o = ob' o:=h o (Z9H ob n _ _ o (List.mem_append_right _ List.mem_cons_self))
   have hk:kids ob o = kids ob' o:=by unfold kids;rw [ho]
   rw [←hk]
   exact Z64 n _ _ h
theorem root_tyFix (tab:Tr) (t:TypeId) (m:Bool) (x:AV):root1 m (tyFix tab t x) = root1 m x:=by
 have cells:∀ (sh:List Sh) (cs:List AV),(Z36 sh cs).flatMap (rootC m) = cs.flatMap (rootC m):=by
  intro sh
  induction sh with
  | nil => intro cs;simp [Z36]
  | cons q sh ih =>
   intro cs
   cases cs with
   | nil => simp [Z36]
   | cons c cs =>
    unfold Z36
    split
    ·rename_i h1 h2
     simp only [List.cons.injEq] at h1 h2
     obtain ⟨rfl,rfl⟩:=h1
     obtain ⟨rfl,rfl⟩:=h2
     simp [ih,rootC]
    ·rename_i h1 h2
     simp only [List.cons.injEq] at h1 h2
     obtain ⟨rfl,rfl⟩:=h1
     obtain ⟨rfl,rfl⟩:=h2
     simp [ih]
    ·rename_i x2;exact absurd rfl (x2 q sh c cs rfl)
 cases x <;> simp only [tyFix] <;> try rfl
 ·split <;> rfl
 ·split
  ·simp only [root1,cells]
  ·rfl
theorem Z6r (tab:Tr) (m:Bool):∀ (ts:List TypeId) (vs:List AV),(Z4n tab ts vs).flatMap (root1 m) = vs.flatMap (root1 m)
 | [],vs => by cases vs <;> rfl
 | t::ts,[] => rfl
 | t::ts,v::vs => by simp [Z4n,root_tyFix,Z6r tab m ts vs]
theorem Z8K (b:Nat):∀ (n k:Nat),(∀ j,k≤j→j < k + n→ob (b + j) = ob' (b + j))→Z4s ob b k n = Z4s ob' b k n
 | 0,_,_ => rfl
 | n + 1,k,h => by
  unfold Z4s
  rw [h k (Nat.le_refl _) (by omega),Z8K b n (k + 1) (fun j h1 h2 => h j (by omega) (by omega))]
end
section
variable {F:Hd} {tab:Tr} {s s':St} {o:Oper}
theorem Z8o (d:Option Tmp) (f:FuncId) (vs:List AV) (h1:∀ q∈vs.flatMap idsA,s.ob q = s'.ob q) (h2:∀ k,k < 16→s.ob (callB d + k) = s'.ob (callB d + k)) (h3:∀ q∈reach s.ob 64 (vs.flatMap (root1 (tab.mode f))) [],s.ob q = s'.ob q):Z7K tab s d f vs = Z7K tab s' d f vs:=by
 have hfr:∀ n,(Z4s s.ob (callB d) 0 n && decide (n≤16)) = (Z4s s'.ob (callB d) 0 n && decide (n≤16)):=fun n => by
  by_cases hn:n≤16
  ·rw [Z8K (callB d) n 0 (fun j _ hj => h2 j (by omega))]
  ·simp [hn]
 unfold Z7K
 rw [←Z64 64 _ _ h3]
 generalize reach s.ob 64 (vs.flatMap (root1 (tab.mode f))) [] = hs at h3
 have hl:∀ q∈Z2z hs vs,s.ob q = s'.ob q:=fun q hq => by
  unfold Z2z at hq
  rw [List.mem_filter,List.mem_flatMap] at hq
  obtain ⟨⟨v,hv,hq⟩,_⟩:=hq
  exact h1 q (List.mem_flatMap.2 ⟨v,hv,owns1_sub q hq⟩)
 have hcc:∀ (r:AV) (news outs:List Ob),Z9T s.ob hs (Z2z hs vs) (callB d) r news outs = Z9T s'.ob hs (Z2z hs vs) (callB d) r news outs:=fun r news outs => by
  unfold Z9T;rw [Z6E hl]
 simp only [ZbH h1,ZcK h3,hfr,hcc]
theorem opAct_congr (hev:∀ x∈o.op.operands,s.eval x = s'.eval x) (hob:∀ q∈Z2t tab s o,s.ob q = s'.ob q):opAct F tab s o = opAct F tab s' o:=by
 have hops:blind o.op = false→∀ x∈o.op.operands,∀ q∈idsA (s.eval x),s.ob q = s'.ob q:=fun hb x hx q hq => hob q (by
  unfold Z2t
  rw [hb]
  exact List.mem_append_left _ (List.mem_flatMap.2 ⟨x,by simpa using hx,hq⟩))
 unfold opAct
 cases ho:o.op with
 | move x => simp only [ho,Op.operands] at hev ⊢;rw [hev x (by simp)]
 | assign x => simp only [ho,Op.operands] at hev ⊢;rw [hev x (by simp)]
 | pick c x y => simp only [ho,Op.operands] at hev ⊢;rw [hev c (by simp),hev x (by simp),hev y (by simp)]
 | alloc e =>
  dsimp only
  cases hd:o.dst with
  | none => rfl
  | some d =>
   have:=hob d (by unfold Z2t;rw [ho,hd];simp)
   cases tab.get e with
   | none => rfl
   | some te => simp only [this]
 | box e x =>
  replace hops:=hops (by rw [ho];rfl)
  simp only [ho,Op.operands] at hev hops ⊢
  rw [←hev x (by simp),Z60 (x:=tyFix tab e (s.eval x)) (ob':=s'.ob) (fun q hq => hops x (by simp) q (by rw [Z6M] at hq;exact hq))]
  cases hd:o.dst with
  | none => rfl
  | some d =>
   have:=hob d (by unfold Z2t;rw [ho,hd];simp)
   cases cellsOf s'.ob (tyFix tab e (s.eval x)) with
   | none => rfl
   | some cs => simp only [this]
 | build t parts =>
  replace hops:=hops (by rw [ho];rfl)
  simp only [ho,Op.operands] at hev hops ⊢
  have e1:(parts.toList.map fun p => (p.1,s.eval p.2)) = parts.toList.map fun p => (p.1,s'.eval p.2):=List.map_congr_left (fun p hp => by
   rw [hev p.2 (by simp;exact ⟨p.1,by simpa using hp⟩)])
  rw [←e1]
  have e2:∀ (pl:List (Nat×Nat)) cs,fillA pl tab s.ob cs (parts.toList.map fun p => (p.1,s.eval p.2)) = fillA pl tab s'.ob cs (parts.toList.map fun p => (p.1,s.eval p.2)):=fun pl cs => Z7t pl tab _ cs (fun q hq => by
   rw [List.mem_flatMap] at hq
   obtain ⟨p,hp,hq⟩:=hq
   rw [List.mem_map] at hp
   obtain ⟨p0,hp0,rfl⟩:=hp
   exact hops p0.2 (by simp;exact ⟨p0.1,by simpa using hp0⟩) q hq)
  simp only [e2]
 | buildSlice t len parts =>
  replace hops:=hops (by rw [ho];rfl)
  simp only [ho,Op.operands] at hev hops ⊢
  have mem:∀ p∈parts.toList,p.2∈(parts.toList.map (·.2)).toArray:=fun p hp => by simp;exact ⟨p.1,by simpa using hp⟩
  have e0:(parts.toList.flatMap fun p => owns1 (s.eval p.2)) = parts.toList.flatMap fun p => owns1 (s'.eval p.2):=by
   rw [List.flatMap_def,List.flatMap_def]
   exact congrArg _ (List.map_congr_left (fun p hp => by rw [hev p.2 (mem p hp)]))
  rw [←e0]
  have hfz:∀ q∈(parts.toList.flatMap fun p => owns1 (s.eval p.2)),s.ob q = s'.ob q:=fun q hq => by
   rw [List.mem_flatMap] at hq
   obtain ⟨p,hp,hq⟩:=hq
   exact hops p.2 (mem p hp) q (owns1_sub q hq)
  have hfr:∀ x∈parts.toList,∀ q∈idsA (s.eval x.2),updCh ((parts.toList.flatMap fun p => owns1 (s.eval p.2)).flatMap (Z0A s.ob)) s.ob q = updCh ((parts.toList.flatMap fun p => owns1 (s.eval p.2)).flatMap (Z0A s'.ob)) s'.ob q:=fun x hx => frz_congr hfz (hops x.2 (mem x hx))
  have hfc:=Z6E hfz
  generalize (parts.toList.flatMap fun p => owns1 (s.eval p.2)) = fz at hfr hfc
  have e1:(parts.toList.map fun p => (p.1,Z5l (updCh (fz.flatMap (Z0A s.ob)) s.ob) (s.eval p.2))) = parts.toList.map fun p => (p.1,Z5l (updCh (fz.flatMap (Z0A s'.ob)) s'.ob) (s'.eval p.2)):=List.map_congr_left (fun p hp => by
   rw [←hev p.2 (mem p hp),plainV_congr (hfr p hp)])
  have e2:∀ (pl:List (Nat×Nat)) cs,fillA pl tab (updCh (fz.flatMap (Z0A s.ob)) s.ob) cs (parts.toList.map fun p => (p.1,Z5l (updCh (fz.flatMap (Z0A s.ob)) s.ob) (s.eval p.2))) = fillA pl tab (updCh (fz.flatMap (Z0A s'.ob)) s'.ob) cs (parts.toList.map fun p => (p.1,Z5l (updCh (fz.flatMap (Z0A s.ob)) s.ob) (s.eval p.2))):=fun pl cs => Z7t pl tab _ cs (fun q hq => by
   rw [List.mem_flatMap] at hq
   obtain ⟨p,hp,hq⟩:=hq
   rw [List.mem_map] at hp
   obtain ⟨p0,hp0,rfl⟩:=hp
   exact hfr p0 hp0 q (plainV_ids _ q hq))
  unfold bsAct
  rw [←e1]
  simp only [e2]
  simp only [hfc]
  cases hd:o.dst with
  | none => rfl
  | some d =>
   have:=hob d (by unfold Z2t;rw [ho,hd];simp)
   cases tab.get t with
   | none => rfl
   | some ti =>
    obtain ⟨k,sz,by_,sh⟩:=ti
    cases k <;> simp only [this]
 | load t x =>
  replace hops:=hops (by rw [ho];rfl)
  simp only [ho,Op.operands] at hev hops ⊢
  rw [←hev x (by simp)]
  split
  ·rename_i q off ti e _
   rw [hops x (by simp) q (by rw [e];simp [idsA,ids1,idsC])]
  ·rfl
  ·rename_i q i off ti e _
   rw [hops x (by simp) q (by rw [e];simp [idsA,ids1,idsC])]
  ·rfl
 | store t x y =>
  replace hops:=hops (by rw [ho];rfl)
  simp only [ho,Op.operands] at hev hops ⊢
  rw [←hev x (by simp),←hev y (by simp),Z60 (x:=tyFix tab t (s.eval y)) (ob':=s'.ob) (fun q hq => hops y (by simp) q (by rw [Z6M] at hq;exact hq))]
  split
  ·rename_i q off ti vs e _ _
   rw [hops x (by simp) q (by rw [e];simp [idsA,ids1,idsC])]
  ·rename_i q i off ti vs e _ _
   rw [hops x (by simp) q (by rw [e];simp [idsA,ids1,idsC])]
  ·rfl
 | nilCheck x =>
  replace hops:=hops (by rw [ho];rfl)
  simp only [ho,Op.operands] at hev hops ⊢
  rw [←hev x (by simp)]
  split
  ·rename_i q off e
   rw [hops x (by simp) q (by rw [e];simp [idsA,ids1,idsC])]
  ·rfl
  ·rename_i q i off e
   rw [hops x (by simp) q (by rw [e];simp [idsA,ids1,idsC])]
  ·rfl
 | makeFunc f first caps =>
  cases f <;> try rfl
  simp only [ho,Op.operands] at hev ⊢
  have e1:caps.toList.map s.eval = caps.toList.map s'.eval:=List.map_congr_left (fun x hx => hev x (by simp;exact .inr (by simpa using hx)))
  have e2:(caps.toList.all fun x => Za1 (s.eval x)) = caps.toList.all fun x => Za1 (s'.eval x):=by
   have:∀ (u:St),(caps.toList.all fun x => Za1 (u.eval x)) = (caps.toList.map u.eval).all Za1:=fun u => by rw [List.all_map];rfl
   rw [this,this,e1]
  rw [e1,e2]
 | makeSlice t x y =>
  simp only [ho,Op.operands] at hev ⊢
  rw [←hev x (by simp),←hev y (by simp)]
  cases hd:o.dst with
  | none => rfl
  | some d =>
   have:=hob d (by unfold Z2t;rw [ho,hd];simp)
   cases tab.get t with
   | none => rfl
   | some ti =>
    obtain ⟨k,sz,by_,sh⟩:=ti
    generalize s.eval x = u
    generalize s.eval y = u'
    cases k <;> try rfl
    cases u <;> try rfl
    rename_i v
    cases v <;> try rfl
    rename_i q n
    cases q <;> try rfl
    cases u' <;> try rfl
    rename_i v
    cases v <;> try rfl
    rename_i q m
    cases q <;> try rfl
    simp only [this]
 | binOp op t x y t' => simp only [ho,Op.operands] at hev ⊢;rw [hev x (by simp),hev y (by simp)]
 | unOp u t x => simp only [ho,Op.operands] at hev ⊢;rw [hev x (by simp)]
 | convert t t' x =>
  replace hops:=hops (by rw [ho];rfl)
  simp only [ho,Op.operands] at hev hops ⊢
  rw [←hev x (by simp)]
  have e1:=Z55 (x:=s.eval x) (ob':=s'.ob) (hops x (by simp))
  generalize s.eval x = v at e1
  split <;> first | rfl | (rw [e1])
 | slice t x lo hi mx =>
  cases mx with
  | some _ => rfl
  | none =>
   replace hops:=hops (by rw [ho];rfl)
   simp only [ho,Op.operands] at hev hops ⊢
   have hb:∀ (d:Int),Z4Q s d lo = Z4Q s' d lo∧Z4Q s d hi = Z4Q s' d hi:=fun d => by
    constructor
    ·cases lo with
     | none => rfl
     | some y => simp only [Z4Q];rw [hev y (by simp)]
    ·cases hi with
     | none => rfl
     | some y => simp only [Z4Q];rw [hev y (by simp)]
   rw [←hev x (by simp)]
   have e1:=Z55 (x:=s.eval x) (ob':=s'.ob) (hops x (by simp))
   have e2:(owns (s.eval x)).flatMap (Z0A s.ob) = (owns (s.eval x)).flatMap (Z0A s'.ob):=Z6E (fun q hq => hops x (by simp) q (Ze3 q (ZdF q hq)))
   simp only [fun d => (hb d).1,fun d => (hb d).2]
   generalize s.eval x = v at e1 e2
   split <;> first | rfl | (rw [e1,e2])
 | fieldAddr t x f =>
  replace hops:=hops (by rw [ho];rfl)
  simp only [ho,Op.operands] at hev hops ⊢
  rw [←hev x (by simp)]
  have e1:∀ q p,s.eval x = .ptr q p→s.ob q = s'.ob q:=fun q p e => hops x (by simp) q (by rw [e];simp [idsA,ids1,idsC])
  have e2:∀ q i p,s.eval x = .elo q i p→s.ob q = s'.ob q:=fun q i p e => hops x (by simp) q (by rw [e];simp [idsA,ids1,idsC])
  generalize s.eval x = v at e1 e2
  cases v <;> try rfl
  ·rename_i q p
   have:=e1 q p rfl
   simp only [this]
  ·rename_i q i p
   have:=e2 q i p rfl
   simp only [this]
 | indexAddr t x i =>
  replace hops:=hops (by rw [ho];rfl)
  simp only [ho,Op.operands] at hev hops ⊢
  rw [←hev x (by simp),←hev i (by simp),Z55 (x:=s.eval x) (ob':=s'.ob) (hops x (by simp))]
 | index t x i => simp only [ho,Op.operands] at hev ⊢;rw [hev x (by simp),hev i (by simp)]
 | extract x i => simp only [ho,Op.operands] at hev ⊢;rw [hev x (by simp)]
 | call c =>
  replace hops:=hops (by rw [ho];rfl)
  have hargs:∀ x∈c.args.toList,s.eval x = s'.eval x:=fun x hx => hev x (by rw [ho];simp only [Op.operands,Call.operands];exact Array.mem_append_right _ (by simpa using hx))
  have hargo:∀ x∈c.args.toList,∀ q∈idsA (s.eval x),s.ob q = s'.ob q:=fun x hx => hops x (by rw [ho];simp only [Op.operands,Call.operands];exact Array.mem_append_right _ (by simpa using hx))
  have em:c.args.toList.map s.eval = c.args.toList.map s'.eval:=List.map_congr_left hargs
  cases hc:c.callee with
  | invoke _ _ => simp only [hc]
  | value q =>
   simp only [hc]
   have hq:s.eval q = s'.eval q:=hev q (by rw [ho];simp only [Op.operands,Call.operands,hc];simp)
   rw [←hq,←em]
   have hqo:∀ p∈idsA (s.eval q),s.ob p = s'.ob p:=hops q (by rw [ho];simp only [Op.operands,Call.operands,hc];simp)
   have hfoot:∀ p,p∈((List.range 16).map fun k => callB o.dst + k)++reach s.ob 64 ((Z3j s c).flatMap (root1 (tab.mode (Z4X s c)))) []→s.ob p = s'.ob p:=fun p hp => hob p (by
    unfold Z2t
    rw [ho]
    refine List.mem_append_right _ ?_
    obtain ⟨cl,ar,at_⟩:=c
    simp only at hc
    subst hc
    exact hp)
   have h16:∀ k,k < 16→s.ob (callB o.dst + k) = s'.ob (callB o.dst + k):=fun k hk => hfoot _ (List.mem_append_left _ (List.mem_map.2 ⟨k,List.mem_range.2 hk,rfl⟩))
   have hal:∀ p∈(Z4n tab c.argTypes.toList (c.args.toList.map s.eval)).flatMap idsA,s.ob p = s'.ob p:=fun p hp => by
    rw [ZcH,List.mem_flatMap] at hp
    obtain ⟨v,hv,hp⟩:=hp
    rw [List.mem_map] at hv
    obtain ⟨x,hx,rfl⟩:=hv
    exact hargo x hx p hp
   split
   ·rename_i f eq
    refine Z8o _ _ _ hal h16 (fun p hp => hfoot p (List.mem_append_right _ ?_))
    rw [Z6r] at hp
    unfold Z3j Z4X
    simp only [hc,eq]
    exact hp
   ·rename_i f cs eq
    by_cases hcell:cs.all Za1 = true
    rotate_left
    ·rw [if_neg hcell,if_neg hcell]
    rw [if_pos hcell,if_pos hcell]
    refine Z8o _ _ _ (fun p hp => ?_) h16 (fun p hp => hfoot p (List.mem_append_right _ ?_))
    ·rw [List.flatMap_append] at hp
     rcases List.mem_append.1 hp with h | h
     ·exact hal p h
     ·refine hqo p ?_
      rw [eq]
      simp only [idsA,ids1]
      rw [List.mem_flatMap] at h ⊢
      obtain ⟨x,hx,h⟩:=h
      rw [eq] at hqo
      have hc1:=List.all_eq_true.1 hcell x hx
      exact ⟨x,hx,by cases x <;> first | exact h | cases hc1⟩
    ·rw [List.flatMap_append,Z6r,←List.flatMap_append] at hp
     unfold Z3j Z4X
     simp only [hc,eq]
     exact hp
   ·rfl
  | builtin b =>
   cases b <;> simp only [hc] <;> try rfl
   ·
    rw [←em]
    cases hd:o.dst with
    | none => rfl
    | some d =>
     split
     ·rename_i d' x y t t' hd' hxy _
      obtain rfl:=Option.some.inj hd'
      split
      ·have hx:∀ v∈c.args.toList.map s.eval,∀ q∈idsA v,s.ob q = s'.ob q:=fun v hv q hq => by
        rw [List.mem_map] at hv
        obtain ⟨z,hz,rfl⟩:=hv
        exact hargo z hz q hq
       rw [hxy] at hx
       have hdd:=hob d (by
        unfold Z2t;rw [ho,hd]
        obtain ⟨cl,ar,at_⟩:=c
        simp only at hc
        subst hc
        simp)
       unfold appAct
       rw [Z55 (x:=tyFix tab t y) (ob':=s'.ob) (fun q hq => hx y (by simp) q (by rw [Z6M] at hq;exact hq)),hdd]
       have e1:∀ q,x = .own q→s.ob q = s'.ob q:=fun q e => hx x (by simp) q (by rw [e];simp [idsA,ids1,idsC])
       cases x <;> try rfl
       rename_i q
       have:=e1 q rfl
       simp only [this]
      ·have hx:∀ v∈c.args.toList.map s.eval,∀ q∈idsA v,s.ob q = s'.ob q:=fun v hv q hq => by
        rw [List.mem_map] at hv
        obtain ⟨z,hz,rfl⟩:=hv
        exact hargo z hz q hq
       rw [hxy] at hx
       have hdd:=hob d (by
        unfold Z2t;rw [ho,hd]
        obtain ⟨cl,ar,at_⟩:=c
        simp only at hc
        subst hc
        simp)
       unfold strAct
       rw [hdd]
       have e1:∀ q,x = .own q→s.ob q = s'.ob q:=fun q e => hx x (by simp) q (by rw [e];simp [idsA,ids1,idsC])
       cases x <;> try rfl
       rename_i q
       have:=e1 q rfl
       simp only [this]
     ·rfl
   ·
    rw [←em]
    split
    ·rename_i u t hu _
     have hx:∀ q∈idsA u,s.ob q = s'.ob q:=by
      have:u∈c.args.toList.map s.eval:=by rw [hu];simp
      rw [List.mem_map] at this
      obtain ⟨z,hz,rfl⟩:=this
      exact hargo z hz
     have e1:=Z55 (x:=u) (ob':=s'.ob) hx
     clear hu
     split <;> first | rfl | rw [e1]
    ·rfl
   ·rw [em]
   ·rw [em]
 | _ => rfl
end
end Go.Ev
namespace Go.Ev
section
variable {P:Program} {T:TBs} {tab:Tr} {ops:Array Oper}
theorem ZdE {R R':Out} {c:Cont} {gd:Bool} (hR:∀ v ch,R v ch→R' v ch)
  (h:if gd then c.sem (F0 P T) (fun v ch => match v with
   | .c (.bool b) => (F0 P T).branch b (R .tt ch) (R .ff ch)
   | v => R v ch) else c.sem (F0 P T) R):if gd then c.sem (F0 P T) (fun v ch => match v with
   | .c (.bool b) => (F0 P T).branch b (R' .tt ch) (R' .ff ch)
   | v => R' v ch) else c.sem (F0 P T) R':=by
 cases gd
 ·exact Z8p hR h
 ·refine Z8p (fun v ch hv => ?_) h
  split at hv
  ·exact ⟨fun e => hR _ _ (hv.1 e),fun e => hR _ _ (hv.2 e)⟩
  ·exact hR _ _ hv
theorem Z5S {i:Nat} {s:St} {R R':Out} (hR:∀ v ch,R v ch→R' v ch) (h:Z54 (F0 P T) tab ops i s R):Z54 (F0 P T) tab ops i s R':=by
 unfold Z54 at h ⊢
 cases ho:ops[i]? with
 | none => rw [ho] at h;exact h
 | some o =>
  simp only [ho] at h ⊢
  cases hg:o.guard with
  | none => simp only [hg] at h ⊢;exact ZdE hR h
  | some gw =>
   obtain ⟨j,want⟩:=gw
   simp only [hg] at h ⊢
   cases hj:(ops[j]?).bind (·.dst) with
   | none => (simp only [hj] at h) <;> exact h.elim
   | some q =>
    simp only [hj] at h ⊢
    generalize s.sl.getD q .dead = y at h ⊢
    cases y with
    | tt => cases want with
     | true => exact ZdE hR h
     | false => exact hR _ _ h
    | ff => cases want with
     | true => exact hR _ _ h
     | false => exact ZdE hR h
    | tup vs => cases vs with
     | nil => exact hR _ _ h
     | cons _ _ => exact h.elim
    | _ => exact h.elim
theorem run_out {R:Out} {c:Cont} {gd:Bool}
  (h:if gd then c.sem (F0 P T) (fun v ch => match v with
   | .c (.bool b) => (F0 P T).branch b (R .tt ch) (R .ff ch)
   | v => R v ch) else c.sem (F0 P T) R):∃ v ch,(if gd then c.sem (F0 P T) (fun v1 ch1 => match v1 with
   | .c (.bool b) => (F0 P T).branch b (AV.tt = v∧ch1 = ch) (AV.ff = v∧ch1 = ch)
   | v1 => v1 = v∧ch1 = ch) else c.sem (F0 P T) (fun v1 ch1 => v1 = v∧ch1 = ch))∧R v ch:=by
 cases gd
 ·exact Z3O h
 ·obtain ⟨v,ch,h1,h2⟩:=Z3O h
  split at h2
  ·rename_i b
   cases b with
   | true => exact ⟨.tt,ch,Z8p (fun v' ch' e => by obtain ⟨rfl,rfl⟩:=e;exact ⟨fun _ => ⟨rfl,rfl⟩,fun e => by cases e⟩) h1,h2.1 rfl⟩
   | false => exact ⟨.ff,ch,Z8p (fun v' ch' e => by obtain ⟨rfl,rfl⟩:=e;exact ⟨(fun e => by cases e),fun _ => ⟨rfl,rfl⟩⟩) h1,h2.2 rfl⟩
  ·rename_i hn
   refine ⟨v,ch,Z8p (fun v' ch' e => ?_) h1,h2⟩
   obtain ⟨rfl,rfl⟩:=e
   split
   ·rename_i b;exact absurd rfl (hn b)
   ·exact ⟨rfl,rfl⟩
theorem Z70 {i:Nat} {s:St} {R:Out} (h:Z54 (F0 P T) tab ops i s R):∃ v ch,Z54 (F0 P T) tab ops i s (fun v1 ch1 => v1 = v∧ch1 = ch)∧R v ch:=by
 unfold Z54 at h ⊢
 cases ho:ops[i]? with
 | none => rw [ho] at h;exact h.elim
 | some o =>
  simp only [ho] at h ⊢
  cases hg:o.guard with
  | none => simp only [hg] at h ⊢;exact run_out h
  | some gw =>
   obtain ⟨j,want⟩:=gw
   simp only [hg] at h ⊢
   cases hj:(ops[j]?).bind (·.dst) with
   | none => (simp only [hj] at h) <;> exact h.elim
   | some q =>
    simp only [hj] at h ⊢
    generalize s.sl.getD q .dead = y at h ⊢
    cases y with
    | tt => cases want with
     | true => exact run_out h
     | false => exact ⟨_,_,⟨rfl,rfl⟩,h⟩
    | ff => cases want with
     | true => exact ⟨_,_,⟨rfl,rfl⟩,h⟩
     | false => exact run_out h
    | tup vs => cases vs with
     | nil => exact ⟨_,_,⟨rfl,rfl⟩,h⟩
     | cons _ _ => exact h.elim
    | _ => exact h.elim
theorem Zdk {s s':St} {o:Oper} (hl:∀ t∈o.looksAt ops,s.sl.getD t .dead = s'.sl.getD t .dead):∀ x∈o.op.operands,s.eval x = s'.eval x:=by
 intro x hx
 cases x with
 | tmp t => exact hl t (List.mem_append_left _ (List.mem_filterMap.2 ⟨.tmp t,by simpa using hx,rfl⟩))
 | _ => rfl
theorem Zd4 {s s':St} {o:Oper} (hl:∀ t∈o.looksAt ops,s.sl.getD t .dead = s'.sl.getD t .dead) (hob:∀ q∈Z2t tab s o,s.ob q = s'.ob q):Z2t tab s o = Z2t tab s' o:=by
 have hev:=Zdk hl
 unfold Z2t
 congr 1
 ·split
  ·rfl
  ·rw [List.flatMap_def,List.flatMap_def]
   exact congrArg _ (List.map_congr_left (fun x hx => by rw [hev x (by simpa using hx)]))
 ·cases ho:o.op <;> try (cases o.dst <;> rfl)
  rename_i c
  cases hc:c.callee with
  | builtin b =>
   obtain ⟨cl,ar,at_⟩:=c
   simp only at hc
   subst hc
   cases o.dst <;> rfl
  | invoke r n =>
   obtain ⟨cl,ar,at_⟩:=c
   simp only at hc
   subst hc
   simp only [Z3j,List.flatMap_nil]
   rfl
  | value q =>
   rw [ho] at hev
   have hq:s.eval q = s'.eval q:=hev q (by simp only [Op.operands,Call.operands,hc];simp)
   have em:c.args.toList.map s.eval = c.args.toList.map s'.eval:=List.map_congr_left (fun x hx => hev x (by simp only [Op.operands,Call.operands];exact Array.mem_append_right _ (by simpa using hx)))
   have e1:Z4X s c = Z4X s' c:=by unfold Z4X;simp only [hc,hq]
   have e2:Z3j s c = Z3j s' c:=by unfold Z3j;simp only [hc,hq,em]
   have key:reach s.ob 64 ((Z3j s c).flatMap (root1 (tab.mode (Z4X s c)))) [] = reach s'.ob 64 ((Z3j s c).flatMap (root1 (tab.mode (Z4X s c)))) []:=Z64 64 _ _ (fun p hp => hob p (by
    unfold Z2t
    rw [ho]
    refine List.mem_append_right _ ?_
    obtain ⟨cl,ar,at_⟩:=c
    simp only at hc
    subst hc
    exact List.mem_append_right _ hp))
   obtain ⟨cl,ar,at_⟩:=c
   simp only at hc
   subst hc
   show _++_ = _++_
   rw [key,e1,e2]
theorem Za5 {F:Hd} {i:Nat} {o:Oper} (ho:ops[i]? = some o) {s s':St} {R:Out} (hl:∀ t∈o.looksAt ops,s.sl.getD t .dead = s'.sl.getD t .dead) (hob:∀ q∈Z2t tab s o,s.ob q = s'.ob q) :
  Z54 F tab ops i s R = Z54 F tab ops i s' R:=by
 have e1:opAct F tab s o = opAct F tab s' o:=opAct_congr (Zdk hl) hob
 unfold Z54
 simp only [ho,opSem,e1]
 cases hg:o.guard with
 | none => rfl
 | some gw =>
  obtain ⟨j,want⟩:=gw
  simp only
  cases hj:(ops[j]?).bind (·.dst) with
  | none => rfl
  | some q =>
   simp only
   rw [hl q (List.mem_append_right _ (by simp [hg,hj]))]
theorem upd_mem {ch:List (Nat×Ob)} {ob ob':Nat→Option Ob} {x:Nat} (h:∃ p∈ch,p.1 = x):updCh ch ob x = updCh ch ob' x:=by
 induction ch with
 | nil => obtain ⟨p,hp,_⟩:=h;cases hp
 | cons p ch ih =>
  obtain ⟨o,b⟩:=p
  show (if x = o then some b else updCh ch ob x) = if x = o then some b else updCh ch ob' x
  by_cases e:x = o
  ·rw [if_pos e,if_pos e]
  ·rw [if_neg e,if_neg e]
   refine ih ?_
   obtain ⟨p,hp,hx⟩:=h
   rcases List.mem_cons.1 hp with rfl | hp
   ·exact absurd hx.symm e
   ·exact ⟨p,hp,hx⟩
theorem Z69 {ch:List (Nat×Ob)} {ob:Nat→Option Ob} {x:Nat} (h:∀ p∈ch,p.1≠x):updCh ch ob x = ob x:=by
 induction ch with
 | nil => rfl
 | cons p ch ih =>
  obtain ⟨o,b⟩:=p
  show (if x = o then some b else updCh ch ob x) = ob x
  rw [if_neg (fun e => h (o,b) List.mem_cons_self e.symm)]
  exact ih (fun p hp => h p (List.mem_cons_of_mem _ hp))
theorem upd_comm {c1 c2:List (Nat×Ob)} {ob:Nat→Option Ob} (h:∀ p∈c1,∀ q∈c2,p.1≠q.1):updCh c1 (updCh c2 ob) = updCh c2 (updCh c1 ob):=by
 funext x
 by_cases h1:∃ p∈c1,p.1 = x
 ·have h2:∀ q∈c2,q.1≠x:=fun q hq e => by obtain ⟨p,hp,hx⟩:=h1;exact h p hp q hq (hx.trans e.symm)
  rw [Z69 h2];exact upd_mem h1
 ·have h1':∀ p∈c1,p.1≠x:=fun p hp e => h1 ⟨p,hp,e⟩
  rw [Z69 h1']
  by_cases h2:∃ q∈c2,q.1 = x
  ·exact upd_mem h2
  ·have h2':∀ q∈c2,q.1≠x:=fun q hq e => h2 ⟨q,hq,e⟩
   rw [Z69 h2',Z69 h2',Z69 h1']
theorem put_comm {s:St} {d d':Option Tmp} {v v':AV} {ch ch':List (Nat×Ob)} (hd:∀ t,d = some t→d'≠some t) (hc:∀ p∈ch,∀ q∈ch',p.1≠q.1):(s.put d v ch).put d' v' ch' = (s.put d' v' ch').put d v ch:=by
 have e1:updCh ch' (updCh ch s.ob) = updCh ch (updCh ch' s.ob):=upd_comm (fun p hp q hq e => hc q hq p hp e.symm)
 unfold St.put
 simp only [e1]
 congr 1
 cases d with
 | none => rfl
 | some t =>
  cases d' with
  | none => rfl
  | some t' => exact List.set_comm _ _ (fun e => hd t rfl (congrArg some e.symm))
theorem put_look {s:St} {d:Option Tmp} {v:AV} {ch:List (Nat×Ob)} {t:Nat} (h:d≠some t):(s.put d v ch).sl.getD t .dead = s.sl.getD t .dead:=by
 cases d with
 | none => rfl
 | some t' =>
  simp only [St.put,List.getD_eq_getElem?_getD]
  rw [List.getElem?_set_ne (fun e => h (congrArg some e))]
theorem disj_of {a b:List Nat} (h:disj a b = true):∀ x∈a,x ∉ b:=fun x hx hb => by
 have:=List.all_eq_true.1 h x hx
 simp at this
 exact this hb
theorem of_disj {a b:List Nat} (h:∀ x∈a,x ∉ b):disj a b = true:=List.all_eq_true.2 (fun x hx => by simpa using h x hx)
theorem chOk_spec {t:Bool} {ft:List Nat} {ch:List (Nat×Ob)} (h:chOk t ft ch = true):(∀ p∈ch,p.1∈ft)∧(t = false→ch = []):=by
 have h1:=List.all_eq_true.1 h
 refine ⟨fun p hp => ?_,fun ht => ?_⟩
 ·have:=h1 p hp
  simp at this
  exact this.2
 ·cases ch with
  | nil => rfl
  | cons p ch =>
   have:=h1 p List.mem_cons_self
   simp [ht] at this
theorem hot_sub {m:Nat} {t:Bool} {ft:List Nat} {H H':List (Nat×Bool×List Nat)} (hs:∀ e∈H',e∈H) (h:hotOk m t ft H = true):hotOk m t ft H' = true :=
 List.all_eq_true.2 (fun e he => List.all_eq_true.1 h e (hs e he))
theorem draw_sub {ms:List Nat} {K:St→Prop}:∀ {r:List Nat} {H H':List (Nat×Bool×List Nat)} {s:St},(∀ e∈H',e∈H)→Z3p (F0 P T) tab ops ms H r s K→Z3p (F0 P T) tab ops ms H' r s K
 | [],_,_,_,_,h => h
 | i::r,H,H',s,hs,h => by
  unfold Z3p at h ⊢
  cases ho:ops[i]? with
  | none => rw [ho] at h;exact h
  | some o =>
   simp only [ho] at h ⊢
   split at h
   ·rename_i hh
    rw [if_pos (hot_sub hs hh)]
    refine Z5S (fun v ch hv => ?_) h
    split at hv
    ·rename_i hc;rw [if_pos hc]
     exact draw_sub (fun e he => by
      rcases List.mem_cons.1 he with rfl | he
      ·exact List.mem_cons_self
      ·exact List.mem_cons_of_mem _ (hs e he)) hv
    ·exact hv.elim
   ·exact h.elim
theorem draw_swap {ms:List Nat} {K:St→Prop} {i j:Nat} {oi oj:Oper} (hi:ops[i]? = some oi) (hj:ops[j]? = some oj) (hm:(ms.getD i 0).testBit j = false) (hap:oj.apart ops oi = true) {r:List Nat} {H:List (Nat×Bool×List Nat)} {s:St}
  (h:Z3p (F0 P T) tab ops ms H (j::i::r) s K):Z3p (F0 P T) tab ops ms H (i::j::r) s K:=by
 obtain ⟨ap1,ap2,ap3⟩:=Oper.apart_spec hap
 unfold Z3p at h
 simp only [hj] at h
 split at h
 ·rename_i hotj
  obtain ⟨vj,chj,outj,h⟩:=Z70 h
  split at h
  ·rename_i cj
   obtain ⟨cj1,cj2⟩:=chOk_spec cj
   unfold Z3p at h
   simp only [hi] at h
   split at h
   ·rename_i hoti
    obtain ⟨vi,chi,outi,h⟩:=Z70 h
    split at h
    ·rename_i ci
     obtain ⟨ci1,ci2⟩:=chOk_spec ci
     have li:∀ t∈oi.looksAt ops,(s.put oj.dst vj chj).sl.getD t .dead = s.sl.getD t .dead:=fun t ht => put_look (fun e => ap1 t e ht)
     have hp:=List.all_eq_true.1 hoti (j,turns oj,Z2t tab s oj) List.mem_cons_self
     simp only [hm,Bool.false_or,Bool.or_eq_true,Bool.and_eq_true,Bool.not_eq_true'] at hp
     have apart0:∀ p∈chj,∀ q∈Z2t tab (s.put oj.dst vj chj) oi,p.1≠q:=fun p hp' q hq e => by
      rcases hp with ⟨_,h2⟩ | h2
      ·rw [cj2 h2] at hp';cases hp'
      ·exact disj_of h2 q hq (e ▸ cj1 p hp')
     have fi:Z2t tab (s.put oj.dst vj chj) oi = Z2t tab s oi:=Zd4 li (fun q hq => Z69 (fun p hp' => apart0 p hp' q hq))
     rw [fi] at hoti ci ci1 hp
     have apart_:∀ p∈chj,∀ q∈Z2t tab s oi,p.1≠q:=fun p hp' q hq => apart0 p hp' q (by rw [fi];exact hq)
     have apart':∀ p∈chi,∀ q∈Z2t tab s oj,p.1≠q:=fun p hp' q hq e => by
      rcases hp with ⟨h2,_⟩ | h2
      ·rw [ci2 h2] at hp';cases hp'
      ·exact disj_of h2 p.1 (ci1 p hp') (e ▸ hq)
     have hcc:∀ p∈chi,∀ q∈chj,p.1≠q.1:=fun p hp' q hq e => apart' p hp' q.1 (cj1 q hq) e
     have oi':∀ q∈Z2t tab (s.put oj.dst vj chj) oi,(s.put oj.dst vj chj).ob q = s.ob q:=fun q hq => by
      rw [fi] at hq
      exact Z69 (fun p hp' => apart_ p hp' q hq)
     have outi':Z54 (F0 P T) tab ops i s (fun v1 ch1 => v1 = vi∧ch1 = chi):=(Za5 (F:=F0 P T) hi li oi') ▸ outi
     unfold Z3p
     simp only [hi]
     rw [if_pos (hot_sub (fun e he => List.mem_cons_of_mem _ he) hoti)]
     refine Z5S (fun v1 ch1 hv => ?_) outi'
     obtain ⟨rfl,rfl⟩:=hv
     rw [if_pos ci]
     have lj:∀ t∈oj.looksAt ops,s.sl.getD t .dead = (s.put oi.dst v1 ch1).sl.getD t .dead:=fun t ht => (put_look (fun e => ap3 t e ht)).symm
     have fj:Z2t tab s oj = Z2t tab (s.put oi.dst v1 ch1) oj:=Zd4 lj (fun q hq => (Z69 (fun p hp' => apart' p hp' q hq)).symm)
     have oj':∀ q∈Z2t tab s oj,s.ob q = (s.put oi.dst v1 ch1).ob q:=fun q hq => (Z69 (fun p hp' => apart' p hp' q hq)).symm
     unfold Z3p
     simp only [hj]
     rw [←fj]
     have hotj':hotOk (ms.getD j 0) (turns oj) (Z2t tab s oj) ((i,turns oi,Z2t tab s oi)::H) = true:=by
      unfold hotOk
      rw [List.all_cons,Bool.and_eq_true]
      refine ⟨?_,hotj⟩
      simp only [Bool.or_eq_true,Bool.and_eq_true,Bool.not_eq_true']
      rcases hp with h2 | h2
      ·exact .inl (.inr ⟨h2.2,h2.1⟩)
      ·exact .inr (of_disj (fun x hx hxi => disj_of h2 x hxi hx))
     rw [if_pos hotj']
     rw [←Za5 (F:=F0 P T) hj lj oj']
     refine Z5S (fun v2 ch2 hv => ?_) outj
     obtain ⟨rfl,rfl⟩:=hv
     rw [if_pos cj]
     have e2:(s.put oi.dst v1 ch1).put oj.dst v2 ch2 = (s.put oj.dst v2 ch2).put oi.dst v1 ch1:=put_comm (fun t e e' => ap2 t e' e) hcc
     rw [e2]
     rw [fi] at h
     exact draw_sub (fun e he => by
      rcases List.mem_cons.1 he with rfl | he
      ·exact List.mem_cons_of_mem _ List.mem_cons_self
      ·rcases List.mem_cons.1 he with rfl | he
       ·exact List.mem_cons_self
       ·exact List.mem_cons_of_mem _ (List.mem_cons_of_mem _ he)) h
    ·exact h.elim
   ·exact h.elim
  ·exact h.elim
 ·exact h.elim
theorem ZcZ {ms:List Nat} {K:St→Prop} {i:Nat} {oi:Oper} (hi:ops[i]? = some oi) {post:List Nat}:∀ {pre:List Nat} {H:List (Nat×Bool×List Nat)} {s:St},(∀ j∈pre,∃ oj,ops[j]? = some oj∧(ms.getD i 0).testBit j = false∧oj.apart ops oi = true) →
  Z3p (F0 P T) tab ops ms H (pre++i::post) s K→Z3p (F0 P T) tab ops ms H (i::(pre++post)) s K
 | [],_,_,_,h => h
 | j::pre,H,s,hp,h => by
  obtain ⟨oj,hj,h1,h2⟩:=hp j List.mem_cons_self
  refine draw_swap hi hj h1 h2 ?_
  have h':Z3p (F0 P T) tab ops ms H (j::(pre++i::post)) s K:=h
  unfold Z3p at h' ⊢
  simp only [hj] at h' ⊢
  split at h'
  ·rename_i hh
   rw [if_pos hh]
   refine Z5S (fun v ch hv => ?_) h'
   split at hv
   ·rename_i hc;rw [if_pos hc]
    exact ZcZ hi (fun k hk => hp k (List.mem_cons_of_mem _ hk)) hv
   ·exact hv.elim
  ·exact h'.elim
end
end Go.Ev
namespace Go.Ev
section
variable {P:Program} {TB:TBs} {tab:Tr} {ops:Array Oper} {w0:World} {gp:Gh} {obp:Nat→Option Ob} {g:Gh} {w:World} {a:Act} {s:St}
theorem Inv.told {d:Option Tmp} {b:Bool} {ch:List (Nat×Ob)} (h:Inv TB w0 gp obp g w a (s.put d (.c (.bool b)) ch)):Inv TB w0 gp obp g w a (s.put d (if b then .tt else .ff) ch):=by
 cases d with
 | none => exact h
 | some d =>
  refine { h with size:=?_,slots:=fun t v hv => ?_ }
  ·have:=h.size;simpa [St.put] using this
  ·simp only [St.put,List.getElem?_set] at hv
   by_cases e:d = t
   ·subst e
    by_cases hl:d < s.sl.length
    ·simp only [if_true,hl] at hv
     obtain rfl:=Option.some.inj hv
     have:=h.slots d (.c (.bool b)) (by simp [St.put,hl])
     have:=Z8C this
     cases b <;> exact this
    ·simp [hl] at hv
   ·simp only [e,if_false] at hv
    exact h.slots t v (by simp only [St.put,List.getElem?_set,e,if_false];exact hv)
theorem wanted_none {o:Oper} (hg:o.guard = none) (y:Nat→Option Bool):Region.wanted o y = true:=by unfold Region.wanted;rw [hg]
theorem Zbv {o:Oper} {j:Nat} {want b:Bool} (hg:o.guard = some (j,want)) {y:Nat→Option Bool} (hy:y j = some b):Region.wanted o y = (b == want):=by
 unfold Region.wanted;rw [hg];simp only [hy];cases b <;> cases want <;> rfl
theorem yield_of (hI:Inv TB w0 gp obp g w a s) {j q:Nat} {b:Bool} (hj:(ops[j]?).bind (·.dst) = some q) (hv:s.sl.getD q .dead = if b then .tt else .ff):yielded ops a.tmps j = some b:=by
 have h1:s.sl[q]? = some (if b then .tt else .ff):=getD_of hv (by cases b <;> simp)
 have h2:=hI.slots q _ h1
 have hl:q < a.tmps.size:=by rw [hI.size];exact (List.getElem?_eq_some_iff.1 h1).1
 have h3:a.tmps.getD q undef = .bool b:=by cases b <;> exact h2
 have h4:a.tmps[q]? = some (.bool b):=by
  rw [Array.getD_eq_getD_getElem?] at h3
  simp [hl] at h3 ⊢
  exact h3
 unfold yielded
 rw [hj]
 simp only [Option.bind_some]
 rw [h4]
theorem wanted_undef {o:Oper} {j:Nat} {want:Bool} (hg:o.guard = some (j,want)) {y:Nat→Option Bool} (hy:y j = none):Region.wanted o y = false:=by
 unfold Region.wanted;rw [hg];simp only [hy];rfl
theorem yield_undef (hI:Inv TB w0 gp obp g w a s) {j q:Nat} (hj:(ops[j]?).bind (·.dst) = some q) (hv:s.sl.getD q .dead = .tup []):yielded ops a.tmps j = none:=by
 have h1:s.sl[q]? = some (.tup []):=getD_of hv (by simp)
 obtain ⟨vs,h2,_⟩:=hI.slots q _ h1
 have hl:q < a.tmps.size:=by rw [hI.size];exact (List.getElem?_eq_some_iff.1 h1).1
 have h4:a.tmps[q]? = some (.tuple vs):=by
  rw [Array.getD_eq_getD_getElem?] at h2
  simp [hl] at h2 ⊢
  exact h2
 unfold yielded
 rw [hj]
 simp only [Option.bind_some]
 rw [h4]
theorem Zd2 (hT:TabOk P tab) (hI:Inv TB w0 gp obp g w a s) {i:Nat} {o:Oper} (ho:ops[i]? = some o) {v:AV} {ch:List (Nat×Ob)} (h:Z54 (F0 P TB) tab ops i s (fun v1 ch1 => v1 = v∧ch1 = ch)) {Q:Exit→Act→World→Prop} {K:Act→World→Prop}
  (hK:∀ g' a' w',Inv TB w0 gp obp g' w' a' (s.put o.dst v ch)→K a' w'):wpOp P ops Q i K a w:=by
 have run:∀ gd:Bool,(if gd then (opAct (F0 P TB) tab s o).sem (F0 P TB) (fun v1 ch1 => match v1 with
   | .c (.bool b) => (F0 P TB).branch b (AV.tt = v∧ch1 = ch) (AV.ff = v∧ch1 = ch)
   | v1 => v1 = v∧ch1 = ch) else (opAct (F0 P TB) tab s o).sem (F0 P TB) (fun v1 ch1 => v1 = v∧ch1 = ch))→o.wp P a w K Q:=by
  intro gd hr
  cases gd with
  | false => exact Oper.wp_mono (fun a' w' hh => by obtain ⟨g',hi⟩:=hh;exact hK g' a' w' hi) (op_good hT hI hr Q)
  | true =>
   obtain ⟨v1,ch1,h1,h2⟩:=Z3O (show (opAct (F0 P TB) tab s o).sem (F0 P TB) (fun v1 ch1 => match v1 with
    | .c (.bool b) => (F0 P TB).branch b (AV.tt = v∧ch1 = ch) (AV.ff = v∧ch1 = ch)
    | v1 => v1 = v∧ch1 = ch) from hr)
   refine Oper.wp_mono (fun a' w' hh => ?_) (op_good hT hI h1 Q)
   obtain ⟨g',hi⟩:=hh
   split at h2
   ·rename_i b
    have hi':=hi.told
    cases b with
    | true => obtain ⟨rfl,rfl⟩:=h2.1 rfl;exact hK g' a' w' hi'
    | false => obtain ⟨rfl,rfl⟩:=h2.2 rfl;exact hK g' a' w' hi'
   ·obtain ⟨rfl,rfl⟩:=h2;exact hK g' a' w' hi
 have skip:v = .tup []∧ch = []→K (a.put o.dst undef) w:=fun e => by
  obtain ⟨rfl,rfl⟩:=e
  exact hK g _ _ (hI.put o.dst ⟨#[],rfl,rfl,fun k c h => by simp at h⟩)
 unfold Z54 at h
 simp only [ho] at h
 unfold wpOp
 simp only [ho]
 cases hg:o.guard with
 | none =>
  simp only [hg] at h
  rw [if_pos (wanted_none hg _)]
  exact .inl (run _ h)
 | some gw =>
  obtain ⟨j,want⟩:=gw
  simp only [hg] at h
  cases hj:(ops[j]?).bind (·.dst) with
  | none => (simp only [hj] at h) <;> exact h.elim
  | some q =>
   simp only [hj] at h
   generalize hy:s.sl.getD q .dead = y at h
   cases y with
   | tt =>
    have hw:=Zbv hg (yield_of (b:=true) hI hj hy)
    cases want with
    | true => rw [if_pos (show _ = true from hw)];exact .inl (run _ h)
    | false => rw [if_neg (by rw [hw];simp)];exact skip ⟨h.1.symm,h.2.symm⟩
   | ff =>
    have hw:=Zbv hg (yield_of (b:=false) hI hj hy)
    cases want with
    | true => rw [if_neg (by rw [hw];simp)];exact skip ⟨h.1.symm,h.2.symm⟩
    | false => rw [if_pos (show _ = true from hw)];exact .inl (run _ h)
   | tup vs =>
    cases vs with
    | nil =>
     have hw:=wanted_undef hg (yield_undef hI hj hy)
     rw [if_neg (by rw [hw];simp)];exact skip ⟨h.1.symm,h.2.symm⟩
    | cons _ _ => exact h.elim
   | _ => exact h.elim
def toEx:Exit→Ex→Prop
 | .normal,.normal => True
 | .exit i,.exit j => i = j
 | .ret,.ret => True
 | _,_ => False
def Post (TB:TBs) (w0:World) (gp:Gh) (obp:Nat→Option Ob) (Q:Ex→St→Prop):Exit→Act→World→Prop:=fun e a w => ∃ x g s,toEx e x∧Inv TB w0 gp obp g w a s∧Q x s
theorem seq_sound (hT:TabOk P tab) {Q:Exit→Act→World→Prop} {K:St→Prop} (hK:∀ g a w s,Inv TB w0 gp obp g w a s→K s→Q .normal a w):∀ (l:List Nat) {g:Gh} {w:World} {a:Act} {s:St},Inv TB w0 gp obp g w a s→seqAll (F0 P TB) tab ops l s K→wpOps P ops Q l a w
 | [],_,_,_,_,hI,h => hK _ _ _ _ hI h
 | i::l,g,w,a,s,hI,h => by
  unfold seqAll at h
  rw [wpOps_cons]
  obtain ⟨v,ch,h1,h2⟩:=Z70 h
  cases ho:ops[i]? with
  | none => unfold Z54 at h1;rw [ho] at h1;exact h1.elim
  | some o =>
   rw [ho] at h2
   exact Zd2 hT hI ho h1 (fun g' a' w' hi => seq_sound hT hK l hi h2)
theorem ZbW:∀ (l:List Oper) (acc:List Nat) (i:Nat),i < acc.length→(masks l acc).getD i 0 = acc.getD i 0
 | [],_,_,_ => rfl
 | o::l,acc,i,h => by
  rw [masks,ZbW l _ i (by simp;omega)]
  simp [List.getD_eq_getElem?_getD,List.getElem?_append_left h]
theorem masks_at:∀ (l:List Oper) (acc:List Nat) (i:Nat) (o:Oper),l[i]? = some o→(∀ e∈o.after.toList,Region.binds .any e = true→e.on < acc.length + i)→(masks l acc).getD (acc.length + i) 0 = Z9V o (masks l acc)
 | [],_,_,_,h,_ => by simp at h
 | p::l,acc,0,o,h,he => by
  simp at h;subst h
  rw [masks]
  rw [ZbW l _ _ (by simp)]
  have e1:(acc++[Z9V p acc]).getD acc.length 0 = Z9V p acc:=by simp [List.getD_eq_getElem?_getD]
  rw [Nat.add_zero,e1]
  unfold Z9V
  have:∀ (es:List Edge) (m:Nat),(∀ e∈es,Region.binds .any e = true→e.on < acc.length)→es.foldl (fun m e => if Region.binds .any e then m ||| 2 ^ e.on ||| acc.getD e.on 0 else m) m = es.foldl (fun m e => if Region.binds .any e then m ||| 2 ^ e.on ||| (masks l (acc++[Z9V p acc])).getD e.on 0 else m) m:=by
   intro es
   induction es with
   | nil => intro m _;rfl
   | cons e es ih =>
    intro m hes
    simp only [List.foldl_cons]
    by_cases hb:Region.binds .any e = true
    ·have hlt:=hes e List.mem_cons_self hb
     rw [if_pos hb,if_pos hb,ZbW l _ _ (by simp;omega)]
     have:(acc++[Z9V p acc]).getD e.on 0 = acc.getD e.on 0:=by simp [List.getD_eq_getElem?_getD,List.getElem?_append_left hlt]
     rw [this]
     exact ih _ (fun e' he' => hes e' (List.mem_cons_of_mem _ he'))
    ·rw [if_neg hb,if_neg hb]
     exact ih _ (fun e' he' => hes e' (List.mem_cons_of_mem _ he'))
  exact this _ 0 (fun e h1 h2 => by have:=he e h1 h2;omega)
 | p::l,acc,i + 1,o,h,he => by
  rw [masks]
  have:=masks_at l (acc++[Z9V p acc]) i o (by simpa using h) (fun e h1 h2 => by have:=he e h1 h2;simp;omega)
  rw [List.length_append,List.length_singleton] at this
  rw [show acc.length + (i + 1) = acc.length + 1 + i by omega]
  exact this
theorem fold_bit (ms:List Nat) (j:Nat):∀ (es:List Edge) (m:Nat),(es.foldl (fun m e => if Region.binds .any e then m ||| 2 ^ e.on ||| ms.getD e.on 0 else m) m).testBit j = true→m.testBit j = true∨∃ e∈es,Region.binds .any e = true∧(e.on = j∨(ms.getD e.on 0).testBit j = true)
 | [],m,h => .inl h
 | e::es,m,h => by
  simp only [List.foldl_cons] at h
  rcases fold_bit ms j es _ h with h1 | ⟨e',h1,h2⟩
  ·by_cases hb:Region.binds .any e = true
   ·rw [if_pos hb] at h1
    simp only [Nat.testBit_or,Bool.or_eq_true] at h1
    rcases h1 with (h1 | h1) | h1
    ·exact .inl h1
    ·refine .inr ⟨e,List.mem_cons_self,hb,.inl ?_⟩
     rw [Nat.testBit_two_pow] at h1
     simpa using h1
    ·exact .inr ⟨e,List.mem_cons_self,hb,.inr h1⟩
   ·rw [if_neg hb] at h1;exact .inl h1
  ·exact .inr ⟨e',List.mem_cons_of_mem _ h1,h2⟩
theorem Zbs (h:drawOk ops = true) {i:Nat} {oi:Oper} (hi:ops[i]? = some oi):(∀ e∈oi.after.toList,Region.binds .any e = true→e.on < i)∧∀ j < i,∀ oj,ops[j]? = some oj→((masks ops.toList []).getD i 0).testBit j = true∨oj.apart ops oi = true:=by
 have hlt:=(Array.getElem?_eq_some_iff.1 hi).1
 have h1:=List.all_eq_true.1 h i (List.mem_range.2 hlt)
 simp only [hi,Bool.and_eq_true] at h1
 obtain ⟨⟨⟨h2,_⟩,_⟩,h5⟩:=h1
 refine ⟨fun e he hb => ?_,fun j hj oj hoj => ?_⟩
 ·have:=List.all_eq_true.1 h2 e he
  simp [hb] at this
  exact this
 ·have:=List.all_eq_true.1 h5 j (List.mem_range.2 hj)
  simp only [hoj,Bool.or_eq_true] at this
  exact this
theorem mask_listed (hok:drawOk ops = true) {listed:Array Bool} (hc:∀ j oj,ops[j]? = some oj→listed.getD j true = true→∀ e∈oj.after,Region.binds .any e = true→listed.getD e.on true = true) :
  ∀ (i:Nat) (oi:Oper),ops[i]? = some oi→(∀ e∈oi.after,Region.binds .any e = true→listed.getD e.on true = true)→∀ j,((masks ops.toList []).getD i 0).testBit j = true→listed.getD j true = true:=by
 intro i
 induction i using Nat.strongRecOn with
 | _ i ih =>
  intro oi hi hl j hb
  obtain ⟨hlt,_⟩:=Zbs hok hi
  have:=masks_at ops.toList [] i oi (by simpa using hi) (fun e h1 h2 => by have:=hlt e h1 h2;simpa using this)
  rw [List.length_nil,Nat.zero_add] at this
  rw [this] at hb
  rcases fold_bit _ j _ _ hb with h0 | ⟨e,he,heb,h1⟩
  ·simp at h0
  ·have hel:=hl e (by simpa using he) heb
   rcases h1 with rfl | h1
   ·exact hel
   ·cases hoe:ops[e.on]? with
    | none =>
     have hge:ops.size≤e.on:=by
      rcases Nat.lt_or_ge e.on ops.size with h | h
      ·rw [Array.getElem?_eq_getElem h] at hoe;cases hoe
      ·exact h
     have:e.on < i:=hlt e he heb
     have hil:=(Array.getElem?_eq_some_iff.1 hi).1
     omega
    | some oe => exact ih e.on (hlt e he heb) oe hoe (hc e.on oe hoe hel) j h1
theorem draw_sound (hT:TabOk P tab) (hok:drawOk ops = true) {Q:Exit→Act→World→Prop} {K:St→Prop} (hK:∀ g a w s,Inv TB w0 gp obp g w a s→K s→Q .normal a w) :
  ∀ (fuel:Nat) (listed:Array Bool) (T:List Nat) (H:List (Nat×Bool×List Nat)) {g:Gh} {w:World} {a:Act} {s:St},T.length = fuel→listed.size = ops.size→T.Pairwise (· < ·)→(∀ i,i∈T↔i < ops.size∧listed.getD i true = false) →
   (∀ j oj,ops[j]? = some oj→listed.getD j true = true→∀ e∈oj.after,Region.binds .any e = true→listed.getD e.on true = true) →
   Inv TB w0 gp obp g w a s→Z3p (F0 P TB) tab ops (masks ops.toList []) H T s K→wpAny P .any ops Q fuel listed a w:=by
 have rdy:∀ (listed:Array Bool) (i:Nat),listed.size = ops.size→i∈Region.ready .any ops listed→∃ oi,ops[i]? = some oi∧i < ops.size∧listed.getD i true = false∧∀ e∈oi.after,Region.binds .any e = true→listed.getD e.on false = true:=by
  intro listed i _ hi
  obtain ⟨h1,oi,h2,h3⟩:=mem_ready.1 hi
  exact ⟨oi,h2,(Array.getElem?_eq_some_iff.1 h2).1,h1,h3⟩
 have gd:∀ (listed:Array Bool) (i:Nat),listed.getD i false = true→listed.getD i true = true:=by
  intro listed i h
  rcases Nat.lt_or_ge i listed.size with h' | h'
  ·simp [h'] at h ⊢;exact h
  ·simp [h']
 intro fuel
 induction fuel with
 | zero =>
  intro listed T H g w a s hl hsz hs hm hc hI h
  obtain rfl:T = []:=List.eq_nil_of_length_eq_zero hl
  refine ⟨?_,hK _ _ _ _ hI h⟩
  cases hr:Region.ready .any ops listed with
  | nil => rfl
  | cons i r =>
   obtain ⟨oi,_,h2,h3,_⟩:=rdy listed i hsz (by rw [hr];exact List.mem_cons_self)
   have:=(hm i).2 ⟨h2,h3⟩
   cases this
 | succ fuel ih =>
  intro listed T H g w a s hl hsz hs hm hc hI h
  refine ⟨fun hr => ?_,fun i hi => ?_⟩
  ·exfalso
   cases T with
   | nil => simp at hl
   | cons i T =>
    obtain ⟨h1,h2⟩:=(hm i).1 List.mem_cons_self
    have hoi:ops[i]? = some ops[i]:=Array.getElem?_eq_getElem h1
    obtain ⟨hlt,_⟩:=Zbs hok hoi
    have:i∈Region.ready .any ops listed:=mem_ready.2 ⟨h2,ops[i],hoi,fun e he hb => by
     have hei:=hlt e (by simpa using he) hb
     have hn:e.on ∉ i::T:=fun hin => by
      rcases List.mem_cons.1 hin with h | h
      ·omega
      ·have:=(List.pairwise_cons.1 hs).1 _ h;omega
     have hls:e.on < listed.size:=by omega
     cases hv:listed.getD e.on false with
     | true => rfl
     | false => exact absurd ((hm e.on).2 ⟨by omega,by simp [hls] at hv ⊢;exact hv⟩) hn⟩
    rw [hr] at this
    cases this
  ·obtain ⟨oi,hoi,h1,h2,h3⟩:=rdy listed i hsz hi
   have hiT:=(hm i).2 ⟨h1,h2⟩
   obtain ⟨pre,post,rfl⟩:=List.append_of_mem hiT
   obtain ⟨_,hap⟩:=Zbs hok hoi
   have hml:=mask_listed hok hc i oi hoi (fun e he hb => gd _ _ (h3 e he hb))
   have hpre:∀ j∈pre,∃ oj,ops[j]? = some oj∧((masks ops.toList []).getD i 0).testBit j = false∧oj.apart ops oi = true:=fun j hj => by
    obtain ⟨hj1,hj2⟩:=(hm j).1 (List.mem_append_left _ hj)
    have hji:j < i:=(List.pairwise_append.1 hs).2.2 j hj i List.mem_cons_self
    have hoj:ops[j]? = some ops[j]:=Array.getElem?_eq_getElem hj1
    have hb:((masks ops.toList []).getD i 0).testBit j = false:=by
     cases hb:((masks ops.toList []).getD i 0).testBit j with
     | false => rfl
     | true => rw [hml j hb] at hj2;cases hj2
    refine ⟨_,hoj,hb,?_⟩
    rcases hap j hji _ hoj with h | h
    ·rw [hb] at h;cases h
    ·exact h
   have hf:=ZcZ hoi hpre h
   unfold Z3p at hf
   simp only [hoi] at hf
   split at hf
   ·obtain ⟨v,ch,hs1,hs2⟩:=Z70 hf
    split at hs2
    ·refine Zd2 hT hI hoi hs1 (fun g' a' w' hI' => ?_)
     have hnd:(pre++i::post).Nodup:=hs.imp (fun h => Nat.ne_of_lt h)
     have hni:i ∉ pre++post:=fun hin => by
      rw [List.nodup_append] at hnd
      obtain ⟨_,hn2,hn3⟩:=hnd
      rcases List.mem_append.1 hin with h | h
      ·exact hn3 i h i List.mem_cons_self rfl
      ·exact (List.nodup_cons.1 hn2).1 h
     refine ih (listed.setIfInBounds i true) (pre++post) _ (by simp at hl ⊢;omega) (by simp [hsz]) ?_ (fun k => ?_) (fun j oj hoj hjl e he hb => ?_) hI' hs2
     ·refine List.Pairwise.sublist ?_ hs
      exact List.Sublist.append_left (List.sublist_cons_self i post) pre
     ·have hk:=hm k
      by_cases hik:i = k
      ·subst hik
       have hil:i < listed.size:=by omega
       constructor
       ·intro hh;exact absurd hh hni
       ·intro hh;simp [hil] at hh
      ·rw [getD_set_ne true hik,←hk]
       simp only [List.mem_append,List.mem_cons]
       constructor
       ·rintro (h | h)
        ·exact .inl h
        ·exact .inr (.inr h)
       ·rintro (h | h | h)
        ·exact .inl h
        ·exact absurd h.symm hik
        ·exact .inr h
     ·have up:∀ x,listed.getD x true = true→(listed.setIfInBounds i true).getD x true = true:=fun x hx => by
       by_cases hik:i = x
       ·subst hik
        have hil:i < listed.size:=by omega
        simp [hil]
       ·rw [getD_set_ne true hik];exact hx
      by_cases hij:i = j
      ·subst hij
       obtain rfl:oi = oj:=Option.some.inj (hoi.symm.trans hoj)
       exact up _ (gd _ _ (h3 e he hb))
      ·rw [getD_set_ne true hij] at hjl
       exact up _ (hc j oj hoj hjl e he hb)
    ·exact hs2.elim
   ·exact hf.elim
end
end Go.Ev
namespace Go.Ev
section
variable {P:Program} {T:TBs} {tab:Tr} {w0:World} {gp:Gh} {obp:Nat→Option Ob} {g:Gh} {w w':World} {a:Act} {s:St}
theorem Inv.same_heap (hI:Inv T w0 gp obp g w a s) (h1:w'.heap = w.heap) (h2:w'.os = w.os) (h3:w'.tape = w.tape) (h4:w'.output = w.output):Inv T w0 gp obp g w' a s:=by
 have he:Ext w g.G w' g.G:=fun b p hp => ⟨hp,by simp only [World.cell?,h1]⟩
 refine { hI with slots:=fun t v hv => (hI.slots t v hv).keep he (Keep.refl _ _),obs:=fun o x hx => (hI.obs o x hx).keep he (Keep.refl _ _) (fun b _ => ⟨by rw [h1],rfl⟩) rfl rfl,grow:=⟨h2.trans hI.grow.os,h3.trans hI.grow.tape,h4.trans hI.grow.output,by rw [h1];exact hI.grow.size,fun k hk hp => by rw [h1];exact hI.grow.block k hk hp⟩,gz:=fun b hb => hI.gz b (by rw [h1] at hb;exact hb),ext:=hI.ext.trans he }
theorem rounds_up {c:Code} {Q:Exit→Act→World→Prop}:∀ (n:Nat) (a:Act) (w:World),Code.rounds P c Q n a w→Code.rounds P c Q (n + 1) a w
 | 0,_,_,h => h.elim
 | n + 1,a,w,h => wp_mono h (fun e a' w' he => by
  cases e <;> first | exact rounds_up n a' w' he | exact he)
theorem rounds_le {c:Code} {Q:Exit→Act→World→Prop} {m n:Nat} (h:m≤n) {a:Act} {w:World} (hr:Code.rounds P c Q m a w):Code.rounds P c Q n a w:=by
 induction h with
 | refl => exact hr
 | step _ ih => exact rounds_up _ _ _ ih
theorem Z4h (hT:TabOk P tab):∀ (c:Code) {g:Gh} {w:World} {a:Act} {s:St} {Q:Ex→St→Prop},Inv T w0 gp obp g w a s→evC (F0 P T) tab c s Q→c.wp P (Post T w0 gp obp Q) a w
 | .skip,g,w,a,s,Q,hI,h => Go.wp_skip (Q:=Post T w0 gp obp Q) ⟨.normal,g,s,trivial,hI,h⟩
 | .region id ops draw,g,w,a,s,Q,hI,h => by
  have fin:∀ g a w s,Inv T w0 gp obp g w a s→Q .normal s→Post T w0 gp obp Q .normal a w:=fun g a w s h1 h2 => ⟨.normal,g,s,trivial,h1,h2⟩
  unfold evC at h
  cases draw with
  | false => exact wp_region (seq_sound hT fin _ hI h)
  | true =>
   obtain ⟨⟨hm,hok⟩,h⟩:=h
   refine wp_region_any hm ?_
   have hl:∀ i,i < ops.size→(Array.replicate ops.size false).getD i true = false:=fun i hi => by simp [hi]
   refine draw_sound hT hok fin ops.size (Array.replicate ops.size false) (List.range ops.size) [] (by simp) (by simp) List.pairwise_lt_range (fun i => ?_) (fun j oj hj hjl => ?_) (hI.same_heap rfl rfl rfl rfl) h
   ·rw [List.mem_range]
    constructor
    ·intro hi;exact ⟨hi,hl i hi⟩
    ·intro hi;exact hi.1
   ·have:=(Array.getElem?_eq_some_iff.1 hj).1
    rw [hl j this] at hjl;cases hjl
 | .seq x y,g,w,a,s,Q,hI,h => by
  unfold evC at h
  refine wp_seq (wp_mono (Z4h hT x hI h) (fun e a' w' he => ?_))
  obtain ⟨ex,g',s',h1,h2,h3⟩:=he
  cases ex <;> cases e <;> simp only [toEx] at h1 <;> first | exact h1.elim | skip
  ·exact Z4h hT y h2 h3
  ·subst h1;exact ⟨.exit _,g',s',rfl,h2,h3⟩
  ·exact ⟨.ret,g',s',trivial,h2,h3⟩
 | .cond c x y,g,w,a,s,Q,hI,h => by
  unfold evC at h
  have hc:=hI.eval c
  split at h
  ·rename_i e;rw [e] at hc
   exact wp_cond_true (show a.eval c = .bool true from hc) (Z4h hT x hI h)
  ·rename_i e;rw [e] at hc
   exact wp_cond_false (show a.eval c = .bool false from hc) (Z4h hT y hI h)
  ·rename_i b e;rw [e] at hc
   have hc:=Z8C hc
   cases b with
   | true => exact wp_cond_true hc (Z4h hT x hI (h.1 rfl))
   | false => exact wp_cond_false hc (Z4h hT y hI (h.2 rfl))
  ·exact h.elim
 | .block id c,g,w,a,s,Q,hI,h => by
  unfold evC at h
  refine wp_block (wp_mono (Z4h hT c hI h) (fun e a' w' he => ?_))
  obtain ⟨ex,g',s',h1,h2,h3⟩:=he
  cases ex <;> cases e <;> simp only [toEx] at h1 <;> first | exact h1.elim | skip
  ·exact ⟨.normal,g',s',trivial,h2,h3⟩
  ·subst h1
   simp only [Exit.inBlock]
   simp only at h3
   split at h3
   ·rename_i e;rw [if_pos e];exact ⟨.normal,g',s',trivial,h2,h3⟩
   ·rename_i e;rw [if_neg e];exact ⟨.exit _,g',s',rfl,h2,h3⟩
  ·exact ⟨.ret,g',s',trivial,h2,h3⟩
 | .loop c,g,w,a,s,Q,hI,h => by
  unfold evC at h
  obtain ⟨I,n,⟨t,hw,ht⟩,hr⟩:=h
  have key:∀ n g w a t,I n t→Inv T w0 gp obp g w a t→Code.rounds P c (Post T w0 gp obp Q) (n + 1) a w:=by
   intro n
   induction n using Nat.strongRecOn with
   | _ n ih =>
    intro g w a t ht hI
    refine wp_mono (Z4h hT c hI (hr n t ht)) (fun e a' w' he => ?_)
    obtain ⟨ex,g',s',h1,h2,h3⟩:=he
    cases ex <;> cases e <;> simp only [toEx] at h1 <;> first | exact h1.elim | skip
    ·obtain ⟨m,hm,t',hw',ht'⟩:=h3
     obtain ⟨g2,h4⟩:=hw' _ _ _ _ _ _ _ h2
     exact rounds_le hm (ih m hm _ _ _ _ ht' h4)
    ·subst h1;exact ⟨.exit _,g',s',rfl,h2,h3⟩
    ·exact ⟨.ret,g',s',trivial,h2,h3⟩
  obtain ⟨g',h'⟩:=hw _ _ _ _ _ _ _ hI
  exact wp_loop_rounds _ (key n g' w a t ht h')
 | .exit id,g,w,a,s,Q,hI,h => wp_exit (Q:=Post T w0 gp obp Q) ⟨.exit id,g,s,rfl,hI,h⟩
 | .ret,g,w,a,s,Q,hI,h => wp_ret (Q:=Post T w0 gp obp Q) ⟨.ret,g,s,trivial,hI,h⟩
 | .rangeFunc ..,_,_,_,_,_,_,h => h.elim
 | .scope _,_,_,_,_,_,_,h => h.elim
 | .label _,_,_,_,_,_,_,h => h.elim
 | .goto _,_,_,_,_,_,_,h => h.elim
 | .refuse _,_,_,_,_,_,_,h => h.elim
def start (n:Nat) (args:List AV) (ins:List Ob):St:=⟨args++List.replicate (n - args.length) .dead,obIn ins⟩
def resAV (tab:Tr) (s:St):ResultVar→AV
 | .tmp t => s.sl.getD t .dead
 | .cell x t => match s.sl.getD x .dead,tab.get t with
  | .ptr o off,some ti => match s.ob o,ti.k with
   | some (.box cs),.struct _ => if off + ti.sz≤cs.length then .agg ((cs.drop off).take ti.sz) else .dead
   | some (.box cs),_ => cs.getD off .dead
   | _,_ => .dead
  | _,_ => .dead
def resOk (tab:Tr) (s:St):ResultVar→Bool
 | .tmp _ => true
 | .cell x t => match s.sl.getD x .dead,tab.get t with
  | .ptr o off,some ti => match s.ob o,ti.k with
   | some (.box cs),.struct _ => decide (off + ti.sz≤cs.length)
   | some (.box cs),_ => decide (off < cs.length)
   | _,_ => false
  | _,_ => false
def numE (n:Nat) (ids:List Nat) (o:Nat):Option Nat:=match idx ids 0 o with
 | some k => some k
 | none => if decide (10000≤o) && decide (o < 10000 + n) then some o else none
def handC (n:Nat) (ids:List Nat):AV→AV
 | .own o => match numE n ids o with
  | some k => .own k
  | none => .dead
 | .ptr o off => match numE n ids o with
  | some k => .ptr k off
  | none => .dead
 | .c v => .c v
 | .tt => .c (.bool true)
 | .ff => .c (.bool false)
 | .nil sh => .c (.sl sh [])
 | .ifc b => .ifc b
 | _ => .dead
def hand1 (n:Nat) (ids:List Nat):AV→AV
 | .agg cs => .agg (cs.map (handC n ids))
 | v => handC n ids v
def handO (n:Nat) (ids:List Nat):Option Ob→Ob
 | some (.box cs) => .box (cs.map (handC n ids))
 | some (.row z e sh rows) => .row z e sh rows
 | _ => .gone
def fin (tab:Tr) (rs:List ResultVar) (ids:List Nat) (n:Nat) (s:St):Option (AV×List Ob×List Ob) :=
 if rs.all (resOk tab s) && Z6K ids && ids.all (fun q => decide (q < 10000) || decide (10008≤q)) && decide (ids.length < 10000) then
  some ((match rs with
   | [r] => hand1 n ids (resAV tab s r)
   | rs => .tup (rs.map fun r => hand1 n ids (resAV tab s r))),ids.map (fun q => handO n ids (s.ob q)),(List.range n).map fun k => handO n ids (s.ob (10000 + k)))
 else none
def gOut (g:Gh) (ids:List Nat):Gh:=⟨fun k => if k < 10000 then g.blk (ids.getD k 0) else g.blk k,fun k => if k < 10000 then g.top (ids.getD k 0) else g.top k,g.G⟩
section
variable {n:Nat} {ids:List Nat} {news outs:List Ob} (hn:news = ids.map (fun q => handO n ids (s.ob q))) (ho:outs = (List.range n).map fun k => handO n ids (s.ob (10000 + k))) (hl:ids.length < 10000)
include hn ho hl
theorem numE_ob {o k:Nat} (h:numE n ids o = some k):obOut news outs k = some (handO n ids (s.ob o))∧(gOut g ids).blk k = g.blk o∧(gOut g ids).top k = g.top o:=by
 unfold numE at h
 split at h
 ·rename_i m hm
  cases h
  obtain ⟨j,hj,rfl⟩:=Z8z hm
  rw [Nat.zero_add]
  have hjl:=(List.getElem?_eq_some_iff.1 hj).1
  have hlt:j < 10000:=by omega
  refine ⟨?_,?_,?_⟩
  ·unfold obOut;rw [if_pos hlt,hn,List.getElem?_map,hj];rfl
  ·exact (if_pos hlt).trans (by rw [List.getD_eq_getElem?_getD,hj];rfl)
  ·exact (if_pos hlt).trans (by rw [List.getD_eq_getElem?_getD,hj];rfl)
 ·split at h
  ·rename_i hc
   cases h
   simp only [Bool.and_eq_true,decide_eq_true_eq] at hc
   have h1:¬ o < 10000:=by omega
   refine ⟨?_,if_neg h1,if_neg h1⟩
   unfold obOut
   rw [if_neg h1,ho,List.getElem?_map,List.getElem?_range (by omega)]
   simp only [Option.map_some]
   rw [show 10000 + (o - 10000) = o by omega]
  ·cases h
theorem Z4l {v:Value} {x:AV} (h:Rep0 w g s.ob v x):Rep0 w (gOut g ids) (obOut news outs) v (handC n ids x):=by
 cases x with
 | c cv => exact h
 | tt => rw [show v = .bool true from h];exact RepC.bool _
 | ff => rw [show v = .bool false from h];exact RepC.bool _
 | nil sh => rw [show v = .slice none 0 0 from h];exact Z63 _
 | ifc b => exact h
 | ptr q off =>
  simp only [handC]
  split
  ·rename_i k hk
   obtain ⟨h1,h2,_⟩:=numE_ob (g:=g) hn ho hl hk
   refine ⟨⟨_,h1⟩,fun cs hc => ?_⟩
   rw [h1] at hc
   have hc:=Option.some.inj hc
   unfold handO at hc
   split at hc
   ·rename_i cs0 h0;rw [h2];exact h.2 cs0 h0
   ·cases hc
   ·cases hc
  ·trivial
 | own q =>
  simp only [handC]
  split
  ·rename_i k hk
   obtain ⟨h1,_,h2⟩:=numE_ob (g:=g) hn ho hl hk
   refine ⟨⟨_,h1⟩,fun z e sh rows hc => ?_⟩
   rw [h1] at hc
   have hc:=Option.some.inj hc
   unfold handO at hc
   split at hc
   ·cases hc
   ·rename_i h0;cases hc;rw [h2];exact h.2 _ _ _ _ h0
   ·cases hc
  ·trivial
 | _ => trivial
omit hn ho hl in
theorem handC_like {x:AV}:Z1X (handC n ids x):=by
 cases x <;> simp only [handC] <;> first | trivial | (split <;> trivial)
theorem hand1_rep {v:Value} {x:AV} (h:Rep w g s.ob v x):Rep1 w (gOut g ids) (obOut news outs) v (hand1 n ids x):=by
 cases x with
 | agg cs =>
  obtain ⟨vs,h1,h2,h3⟩:=h
  refine ⟨vs,h1,by simp [h2],fun k c hc => ?_⟩
  rw [List.getElem?_map,Option.map_eq_some_iff] at hc
  obtain ⟨c0,hc0,rfl⟩:=hc
  exact Z4l hn ho hl (h3 k c0 hc0)
 | tup _ => exact ZC (x:=.dead) trivial
 | clo _ _ => exact ZC (x:=.dead) trivial
 | c v => exact ZC (Z4l hn ho hl (x:=.c v) h)
 | tt => exact ZC (Z4l hn ho hl (x:=.tt) h)
 | ff => exact ZC (Z4l hn ho hl (x:=.ff) h)
 | nil sh => exact ZC (Z4l hn ho hl (x:=.nil sh) h)
 | ptr q off => exact ZC (Z4l hn ho hl (x:=.ptr q off) h)
 | own q => exact ZC (Z4l hn ho hl (x:=.own q) h)
 | elp sh rows i off => exact ZC (x:=.dead) trivial
 | elo q i off => exact ZC (x:=.dead) trivial
 | ifc b => exact ZC (Z4l hn ho hl (x:=.ifc b) h)
 | dead => exact ZC (x:=.dead) trivial
theorem out_of {k:Nat} {x:Ob} (h:obOut news outs k = some x):∃ o,x = handO n ids (s.ob o)∧(gOut g ids).blk k = g.blk o∧(gOut g ids).top k = g.top o∧((k < 10000∧ids[k]? = some o)∨(10000≤k∧k < 10000 + n∧o = k)):=by
 unfold obOut at h
 split at h
 ·rename_i hlt
  rw [hn,List.getElem?_map,Option.map_eq_some_iff] at h
  obtain ⟨o,h1,h2⟩:=h
  exact ⟨o,h2.symm,(if_pos hlt).trans (by rw [List.getD_eq_getElem?_getD,h1];rfl),(if_pos hlt).trans (by rw [List.getD_eq_getElem?_getD,h1];rfl),.inl ⟨hlt,h1⟩⟩
 ·rename_i hge
  rw [ho,List.getElem?_map,Option.map_eq_some_iff] at h
  obtain ⟨j,h1,h2⟩:=h
  have hj:k - 10000 < n∧j = k - 10000:=by
   rw [List.getElem?_eq_some_iff] at h1
   obtain ⟨h3,h4⟩:=h1
   rw [List.length_range] at h3
   rw [List.getElem_range] at h4
   exact ⟨h3,h4.symm⟩
  obtain ⟨hjn,hje⟩:=hj
  rw [hje] at h2
  have e:10000 + (k - 10000) = k:=Nat.add_sub_cancel' (Nat.le_of_not_lt hge)
  rw [e] at h2
  exact ⟨k,h2.symm,if_neg hge,if_neg hge,.inr ⟨Nat.le_of_not_lt hge,(by clear h2;omega),rfl⟩⟩
end
theorem res_run (hT:TabOk P tab) (hI:Inv T w0 gp obp g w a s) {r:ResultVar} (hr:resOk tab s r = true) :
  ∃ v,(match r with
   | .tmp t => (pure (a.tmps.getD t undef):Sem Value)
   | .cell x t => do loadVar t (← asAddr (a.tmps.getD x undef))).run P w = .ok v w∧Rep w g s.ob v (resAV tab s r):=by
 cases r with
 | tmp t => exact ⟨_,rfl,hI.eval (.tmp t)⟩
 | cell x t =>
  have hx:=hI.eval (.tmp x)
  simp only [St.eval,Act.eval] at hx
  simp only [resOk,resAV] at hr ⊢
  split at hr
  ·rename_i q off ti ex htab
   try simp only [ex,htab]
   rw [ex] at hx
   have hti:=hT _ _ htab
   obtain ⟨i,hi,hsz,_⟩:=Z5A hti
   obtain ⟨d,hd,_⟩:=ti_k hti
   have hrow:=tk_row hti hd
   have load:∀ (ad:Addr) (v:Value),a.tmps.getD x undef = .pointer (some ad)→(Instr.loadAt t (.pointer (some ad))).run P w = .ok v w→(do loadVar t (← asAddr (a.tmps.getD x undef)):Sem Value).run P w = .ok v w:=fun ad v h1 h2 => by
    rw [h1]
    simpa [Instr.loadAt,Instr.sureAddr,asAddr] using h2
   split at hr
   ·rename_i cs fs hob hk
    try simp only [hob,hk]
    have hle:off + ti.sz≤cs.length:=by simpa using hr
    rw [if_pos hle]
    have hp:=hx.2 cs hob
    obtain ⟨vs,el,hh,hl,hc,_⟩:=hI.obs _ _ hob
    have hlen:((vs.toList.drop off).take ti.sz).length = ti.sz:=by rw [List.length_take,List.length_drop];simp;omega
    have hr:=run_loadAt_mid (P:=P) w (g.blk q) off t ((vs.toList.drop off).take ti.sz) d (fun j u hj => by
      rw [List.getElem?_take] at hj
      split at hj
      ·rw [List.getElem?_drop] at hj
       simp only [World.cell?,hh]
       simpa using hj
      ·cases hj) hd (hrow.2 ⟨fs,hk⟩) (by rw [hi,hlen];simp [hsz])
    refine ⟨_,load _ _ hp hr,_,rfl,by simp;omega,fun k c hk' => ?_⟩
    rw [List.getElem?_take] at hk'
    split at hk'
    ·rename_i hlt
     rw [List.getElem?_drop] at hk'
     have:=(hc _ _ hk').1
     have hg:((vs.toList.drop off).take ti.sz).toArray.getD k undef = vs.getD (off + k) undef:=by
      simp only [Array.getD_eq_getD_getElem?,List.getElem?_toArray,List.getElem?_take,hlt,if_true,List.getElem?_drop]
      simp
     rw [hg];exact this
    ·cases hk'
   ·rename_i k cs hob hnk
    have hlt:off < cs.length:=by simpa using hr
    have hp:=hx.2 cs hob
    obtain ⟨vs,el,hh,hl,hc,_⟩:=hI.obs _ _ hob
    have hdr:d.isRow = false:=by
     cases hq:d.isRow with
     | false => rfl
     | true => obtain ⟨fs,hf⟩:=hrow.1 hq;exact absurd hf (hnk fs)
    have hlv:off < vs.size:=by omega
    have hr:=Z5p (P:=P) (w:=w) hd hdr (b:=g.blk q) (p:=off) (v:=vs.getD off undef) (by simp only [World.cell?,hh];simp [hlv])
    refine ⟨_,load _ _ hp hr,?_⟩
    have hu:cs[off]? = some (cs.getD off .dead):=by simp [List.getD_eq_getElem?_getD,hlt]
    have:=(hc _ _ hu).1
    exact Z0S this
   ·cases hr
  ·cases hr
theorem ZbZ (hT:TabOk P tab) (hI:Inv T w0 gp obp g w a s) (f:ResultVar→Sem Value) (hf:f = fun r => match r with
   | .tmp t => (pure (a.tmps.getD t undef):Sem Value)
   | .cell x t => do loadVar t (← asAddr (a.tmps.getD x undef))):∀ {rs:List ResultVar},(∀ r∈rs,resOk tab s r = true) →
  ∃ vs:List Value,(rs.mapM f).run P w = .ok vs w∧vs.length = rs.length∧∀ k r,rs[k]? = some r→Rep w g s.ob (vs.getD k undef) (resAV tab s r)
 | [],_ => ⟨[],by simp,rfl,fun k r h => by simp at h⟩
 | r::rs,h => by
  obtain ⟨v,h1,h2⟩:=res_run hT hI (h r List.mem_cons_self)
  obtain ⟨vs,h3,h4,h5⟩:=ZbZ hT hI f hf (rs:=rs) (fun q hq => h q (List.mem_cons_of_mem _ hq))
  refine ⟨v::vs,?_,by simp [h4],fun k q hk => ?_⟩
  ·rw [List.mapM_cons]
   have h1':(f r).run P w = .ok v w:=by rw [hf];exact h1
   simp only [Sem.run_bind,h1',Result.andThen_ok,h3,Sem.run_pure]
  ·cases k with
   | zero => simp at hk;subst hk;exact h2
   | succ k => exact h5 k q (by simpa using hk)
end
end Go.Ev
namespace Go.Ev
section
variable {P:Program} {T:TBs} {tab:Tr} {w0:World} {gp:Gh} {obp:Nat→Option Ob} {g:Gh} {w w':World} {a:Act} {s:St}
theorem con_of {f : FuncId} {fn : Func} {c : Code} (hf : P.funcs[f]? = some fn) (hb : fn.body = some c) (hn : (fn.name == "runtime.NumGoroutine") = false) (hT : TabOk P tab) {args : List AV} {ins : List Ob} {r : AV} {news outs : List Ob} (ids : List Nat) (hlen8 : ins.length ≤ 8)
  (h:∀ F:Hd,F = F0 P T→∀ Q:Ex→St→Prop,(∀ s t,Weak s t→fin tab fn.results.toList ids ins.length t = some (r,news,outs)→Q .ret s)→(∀ s t,Weak s t→fin tab fn.results.toList ids ins.length t = some (r,news,outs)→Q .normal s)→evC F tab c (start fn.ntmps args ins) Q) :
  Con P T f args ins r news outs:=by
 refine ⟨⟨fn,hf,by rw [hb];rfl,hn⟩,fun w gp vs hgz htb hlen hobs hinj hargs => ?_⟩
 refine calls_of_wp hf hb ?_
 have hev:=h (F0 P T) rfl (fun e s => (e = .ret∨e = .normal)∧∃ t,Weak s t∧fin tab fn.results.toList ids ins.length t = some (r,news,outs)) (fun s t hw hs => ⟨.inl rfl,t,hw,hs⟩) (fun s t hw hs => ⟨.inr rfl,t,hw,hs⟩)
 have hI:Inv T w gp (obIn ins) gp w { tmps:=vs.toArray++Array.replicate (fn.ntmps - vs.toArray.size) undef,defers:=[] } (start fn.ntmps args ins):=by
  refine ⟨by simp [start,hlen],fun t v hv => ?_,rfl,hobs,hinj,fun o x b ho hb => .inl ⟨o,x,ho,hb⟩,Grown.refl _ _,fun _ _ _ => rfl,hgz,fun b hb => ?_,Keep.refl _ _,Ext.refl _ _,htb,fun o x ho => ?_⟩
  ·simp only [start] at hv
   rw [List.getElem?_append] at hv
   split at hv
   ·rename_i hlt
    have h1:=hargs t v hv
    have e1:(vs.toArray++Array.replicate (fn.ntmps - vs.toArray.size) undef).getD t undef = vs.getD t undef:=by
     have:t < vs.length:=by omega
     simp [Array.getD_eq_getD_getElem?,List.getD_eq_getElem?_getD,Array.getElem?_append,this]
    rw [e1]
    exact Z0p h1
   ·rw [List.getElem?_replicate] at hv
    split at hv
    ·obtain rfl:=Option.some.inj hv
     exact Z0S (x:=.dead) trivial
    ·cases hv
  ·obtain ⟨o,x,ho,hob⟩:=hb
   exact (hobs o x ho).lt hob
  ·obtain ⟨j,rfl,hj⟩:=Zbn ho
   have:=(List.getElem?_eq_some_iff.1 hj).1
   exact ⟨by omega,by omega⟩
 refine wp_mono (Z4h hT c hI hev) (fun e a' w' he => ?_)
 obtain ⟨x,g0,s0,h1,hI0,hx,s',hwk,hfin⟩:=he
 obtain ⟨g',hI'⟩:=hwk _ _ _ _ _ _ _ hI0
 have done:a'.defers = []∧∃ v,(results fn a'.tmps).run P w' = .ok v w'∧∃ v1 g1,Ending.returned v = .returned v1∧Res w gp ins r news outs v1 w' g1:=by
  refine ⟨hI'.defers,?_⟩
  unfold fin at hfin
  split at hfin
  ·rename_i hok
   simp only [Bool.and_eq_true,List.all_eq_true,Bool.or_eq_true,decide_eq_true_eq] at hok
   obtain ⟨⟨⟨hok,hnd⟩,hno⟩,hl⟩:=hok
   have hnd:=Z4v hnd
   simp only [Option.some.injEq,Prod.mk.injEq] at hfin
   obtain ⟨hr,hnews,houts⟩:=hfin
   have hnews:=hnews.symm
   have houts:=houts.symm
   obtain ⟨rv,hrun,hrl,hrr⟩:=ZbZ hT hI' _ rfl hok
   have hm:(results fn a'.tmps).run P w' = .ok (if h:rv.toArray.size = 1 then rv.toArray[0] else .tuple rv.toArray) w':=by
    have hmap:∀ M:Sem (List Value),M.run P w' = .ok rv w'→(List.toArray <$> M).run P w' = .ok rv.toArray w':=fun M hM => by
     show (M >>= fun l => pure l.toArray).run P w' = _
     rw [Sem.run_bind,hM];rfl
    unfold results
    rw [Array.mapM_eq_mapM_toList,Sem.run_bind]
    exact (congrArg (fun z => Result.andThen z _) (hmap _ hrun)).trans rfl
   have oblk:∀ k x,obOut news outs k = some x→∃ o,x = handO ins.length ids (s'.ob o)∧(∀ b,obBlk (gOut g' ids) k x = some b→∃ y,s'.ob o = some y∧obBlk g' o y = some b)∧((k < 10000∧ids[k]? = some o)∨(10000≤k∧k < 10000 + ins.length∧o = k)):=fun k x hk => by
    obtain ⟨o,rfl,e1,e2,h3⟩:=out_of (g:=g') hnews houts hl hk
    refine ⟨o,rfl,fun b hb => ?_,h3⟩
    unfold handO at hb
    split at hb
    ·rename_i cs hs;exact ⟨_,hs,by simp only [obBlk,e1] at hb ⊢;exact hb⟩
    ·rename_i hs;exact ⟨_,hs,by simp only [obBlk,e2] at hb ⊢;exact hb⟩
    ·cases hb
   refine ⟨_,hm,_,gOut g' ids,rfl,hI'.grow,hI'.old,hI'.gz,?_,fun k x hk => ?_,fun k k' x x' b h1 h2 h3 h4 => ?_,fun k x b h1 h2 => ?_,fun o x ho => ?_,hI'.ext⟩
   ·have hh:∀ k r,fn.results.toList[k]? = some r→Rep1 w' (gOut g' ids) (obOut news outs) (rv.getD k undef) (hand1 ins.length ids (resAV tab s' r)):=fun k r hk => hand1_rep hnews houts hl (hrr k r hk)
    generalize hrs:fn.results.toList = rs at hr hrl hh
    match rs,hr,hrl,hh with
    | [q],hr,hrl,hh =>
     simp only at hr
     subst hr
     match rv,hrl,hh with
     | [v],_,hh => exact Z0p (hh 0 q rfl)
    | [],hr,hrl,hh =>
     simp only at hr
     subst hr
     obtain rfl:rv = []:=List.eq_nil_of_length_eq_zero hrl
     exact ⟨#[],rfl,rfl,fun k c hk => by simp at hk⟩
    | q::q'::qs,hr,hrl,hh =>
     simp only at hr
     subst hr
     have hne:¬ rv.toArray.size = 1:=by simp [hrl]
     rw [dif_neg hne]
     refine ⟨rv.toArray,rfl,by simp [hrl],fun k c hk => ?_⟩
     rw [List.getElem?_map,Option.map_eq_some_iff] at hk
     obtain ⟨r0,hr0,rfl⟩:=hk
     have:=hh k r0 hr0
     simpa [Array.getD_eq_getD_getElem?,List.getD_eq_getElem?_getD] using this
   ·obtain ⟨o,rfl,e1,e2,_⟩:=out_of (g:=g') hnews houts hl hk
    unfold handO
    split
    ·rename_i cs hs
     obtain ⟨vs,e,h1,h2,h3,h4⟩:=hI'.obs o _ hs
     refine ⟨vs,e,by rw [e1];exact h1,by simp [h2],fun j c hc => ?_,by rw [e1];exact h4⟩
     rw [List.getElem?_map,Option.map_eq_some_iff] at hc
     obtain ⟨c0,hc0,rfl⟩:=hc
     exact ⟨Z4l hnews houts hl (h3 j c0 hc0).1,handC_like⟩
    ·rename_i hs
     obtain ⟨cs,h1,h2,h3,h4⟩:=hI'.obs o _ hs
     exact ⟨cs,by rw [e2];exact h1,h2,fun b hb => h3 b (by rw [←e2];exact hb),h4⟩
    ·trivial
   ·obtain ⟨o,_,k1,k2⟩:=oblk k x h1
    obtain ⟨o',_,l1,l2⟩:=oblk k' x' h2
    obtain ⟨y,hy,hyb⟩:=k1 b h3
    obtain ⟨y',hy',hyb'⟩:=l1 b h4
    have:=hI'.inj o o' y y' b hy hy' hyb hyb'
    subst this
    rcases k2 with ⟨k3,k4⟩ | ⟨k3,k4,k5⟩ <;> rcases l2 with ⟨l3,l4⟩ | ⟨l3,l4,l5⟩
    ·exact ZbG hnd k4 l4
    ·exfalso;have:=hno o (List.mem_of_getElem? k4);omega
    ·exfalso;have:=hno o (List.mem_of_getElem? l4);omega
    ·omega
   ·obtain ⟨o,_,k1,_⟩:=oblk k x h1
    obtain ⟨y,hy,hyb⟩:=k1 b h2
    exact hI'.fresh o y b hy hyb
   ·obtain ⟨x',h1,h2,h3,h4⟩:=hI'.keep o x ho
    obtain ⟨j,rfl,hj⟩:=Zbn ho
    have hjl:=(List.getElem?_eq_some_iff.1 hj).1
    have hge:¬ 10000 + j < 10000:=by omega
    have e0:obOut news outs (10000 + j) = some (handO ins.length ids (some x')):=by
     unfold obOut
     rw [if_neg hge,Nat.add_sub_cancel_left,houts,List.getElem?_map,List.getElem?_range hjl]
     simp only [Option.map_some,h1]
    have e1:(gOut g' ids).blk (10000 + j) = g'.blk (10000 + j):=if_neg hge
    have e2:(gOut g' ids).top (10000 + j) = g'.top (10000 + j):=if_neg hge
    refine ⟨_,e0,fun cs hc => ?_,fun z e sh rows hc => ?_,fun cs hc => ?_⟩
    ·cases x' <;> simp only [handO] at hc <;> try cases hc
     exact ⟨(h2 _ rfl).1,e1.trans (h2 _ rfl).2⟩
    ·cases x' <;> simp only [handO] at hc <;> try cases hc
     exact ⟨(h3 _ _ _ _ rfl).1,e2.trans (h3 _ _ _ _ rfl).2⟩
    ·obtain ⟨cs',rfl⟩:=h4 cs hc
     exact ⟨_,rfl⟩
  ·cases hfin
 rcases hx with rfl | rfl <;> cases e <;> simp only [toEx] at h1
 ·exact done
 ·exact done
def renL:List (Nat×Nat)→Nat→Option Nat
 | [],_ => none
 | (n,o)::r,q => if o = q then some n else renL r q
def lookL:List (Nat×Nat)→Nat→Option Nat
 | [],_ => none
 | (n,o)::r,q => if n = q then some o else lookL r q
def kC (ρ:List (Nat×Nat)) (ob:Nat→Option Ob):AV→AV
 | .own o => match ob o with
  | some (.row _ _ sh rows) => match renL ρ o with
   | some n => .own n
   | none => .c (.sl sh rows)
  | _ => .dead
 | .ptr o off => match ob o with
  | some (.box _) => match renL ρ o with
   | some n => .ptr n off
   | none => .dead
  | _ => .dead
 | .tt => .c (.bool true)
 | .ff => .c (.bool false)
 | .nil sh => .c (.sl sh [])
 | .elo .. => .dead
 | v => v
def k1 (ρ:List (Nat×Nat)) (ob:Nat→Option Ob):AV→AV
 | .agg cs => .agg (cs.map (kC ρ ob))
 | .clo f cs => .clo f (cs.map (kC ρ ob))
 | v => kC ρ ob v
def kA (ρ:List (Nat×Nat)) (ob:Nat→Option Ob):AV→AV
 | .tup vs => .tup (vs.map (k1 ρ ob))
 | v => k1 ρ ob v
def kO (ρ:List (Nat×Nat)) (ob:Nat→Option Ob):Ob→Ob
 | .box cs => .box (cs.map (kC ρ ob))
 | o => o
def Z4D (live:List Nat) (ρ:List (Nat×Nat)) (ob:Nat→Option Ob):Nat→List AV→List AV
 | _,[] => []
 | k,v::r => (if hasN live k then kA ρ ob v else .dead)::Z4D live ρ ob (k + 1) r
def pars (ρ:List (Nat×Nat)):List (Nat×Nat):=(10000,10000)::(10001,10001)::(10002,10002)::(10003,10003)::(10004,10004)::(10005,10005)::(10006,10006)::(10007,10007)::ρ
def canon (live:List Nat) (ρ:List (Nat×Nat)) (s:St):St :=
 {sl:=Z4D live (pars ρ) s.ob 0 s.sl
  ob:=fun q => match lookL (pars ρ) q with
   | some o => (s.ob o).map (kO (pars ρ) s.ob)
   | none => none }
theorem Z7U:∀ {R:List (Nat×Nat)} {n o:Nat},lookL R n = some o→(n,o)∈R
 | [],_,_,h => by cases h
 | (m,p)::R,n,o,h => by
  unfold lookL at h
  split at h
  ·rename_i e;subst e;obtain rfl:=Option.some.inj h;exact List.mem_cons_self
  ·exact List.mem_cons_of_mem _ (Z7U h)
theorem ren_mem:∀ {R:List (Nat×Nat)} {n o:Nat},renL R o = some n→(n,o)∈R
 | [],_,_,h => by cases h
 | (m,p)::R,n,o,h => by
  unfold renL at h
  split at h
  ·rename_i e;subst e;obtain rfl:=Option.some.inj h;exact List.mem_cons_self
  ·exact List.mem_cons_of_mem _ (ren_mem h)
theorem Zdw:∀ {R:List (Nat×Nat)} {n o:Nat},(R.map (·.1)).Nodup→(n,o)∈R→lookL R n = some o
 | [],_,_,_,h => by cases h
 | (m,p)::R,n,o,hn,h => by
  simp only [List.map_cons,List.nodup_cons] at hn
  unfold lookL
  rcases List.mem_cons.1 h with e | h
  ·cases e;rw [if_pos rfl]
  ·rw [if_neg (fun e => by subst e;exact hn.1 (List.mem_map.2 ⟨_,h,rfl⟩))]
   exact Zdw hn.2 h
theorem snd_inj:∀ {R:List (Nat×Nat)} {n n' o:Nat},(R.map (·.2)).Nodup→(n,o)∈R→(n',o)∈R→n = n'
 | [],_,_,_,_,h,_ => by cases h
 | (m,p)::R,n,n',o,hn,h,h' => by
  simp only [List.map_cons,List.nodup_cons] at hn
  rcases List.mem_cons.1 h with e | h <;> rcases List.mem_cons.1 h' with e' | h'
  ·cases e;cases e';rfl
  ·cases e;exact absurd (List.mem_map.2 ⟨_,h',rfl⟩) hn.1
  ·cases e';exact absurd (List.mem_map.2 ⟨_,h,rfl⟩) hn.1
  ·exact snd_inj hn.2 h h'
theorem ZaM (live:List Nat) (ρ:List (Nat×Nat)) (ob:Nat→Option Ob):∀ (l:List AV) (k t:Nat) (v:AV),(Z4D live ρ ob k l)[t]? = some v→∃ u,l[t]? = some u∧(v = kA ρ ob u∨v = .dead)
 | [],_,_,_,h => by simp [Z4D] at h
 | x::l,k,0,v,h => by
  simp only [Z4D,List.getElem?_cons_zero,Option.some.injEq] at h
  refine ⟨x,rfl,?_⟩
  split at h
  ·exact .inl h.symm
  ·exact .inr h.symm
 | x::l,k,t + 1,v,h => ZaM live ρ ob l (k + 1) t v (by simpa [Z4D] using h)
theorem Z7F (live:List Nat) (ρ:List (Nat×Nat)) (ob:Nat→Option Ob):∀ (l:List AV) (k:Nat),(Z4D live ρ ob k l).length = l.length
 | [],_ => rfl
 | x::l,k => by simp [Z4D,Z7F live ρ ob l]
theorem pars_look (ρ:List (Nat×Nat)) {o:Nat} (h:10000≤o∧o < 10008):lookL (pars ρ) o = some o:=by
 obtain rfl | rfl | rfl | rfl | rfl | rfl | rfl | rfl:o = 10000∨o = 10001∨o = 10002∨o = 10003∨o = 10004∨o = 10005∨o = 10006∨o = 10007:=by omega
 all_goals rfl
open Classical in
theorem weak_canon (live:List Nat) (ρ:List (Nat×Nat)) (s:St) (h1:Z6K ((pars ρ).map (·.1)) = true) (h2:Z6K ((pars ρ).map (·.2)) = true):Weak s (canon live ρ s):=by
 intro T w0 gp obp g w a hI
 have n1:=Z4v h1
 have n2:=Z4v h2
 have npar:∀ o:Nat,10000≤o∧o < 10008→lookL (pars ρ) o = some o:=fun o h => pars_look ρ h
 generalize hR:pars ρ = R at n1 n2 npar
 have hs:canon live ρ s = { sl:=Z4D live R s.ob 0 s.sl,ob:=fun q => match lookL R q with
   | some o => (s.ob o).map (kO R s.ob)
   | none => none }:=by unfold canon;rw [hR]
 rw [hs]
 let ob2:Nat→Option Ob:=fun q => match lookL R q with
   | some o => (s.ob o).map (kO R s.ob)
   | none => none
 let X:Nat→Nat→Prop:=fun b m => ∃ o z e sh rows,s.ob o = some (.row z e sh rows)∧renL R o = none∧(g.top o).ownBlock = some b∧m = rows.length * sh.length
 have Xone:∀ b m m',X b m→X b m'→m = m':=fun b m m' h h' => by
  obtain ⟨o,z,e,sh,rows,k1,_,k3,rfl⟩:=h
  obtain ⟨o',z',e',sh',rows',l1,_,l3,rfl⟩:=h'
  have:=hI.inj o o' _ _ b k1 l1 k3 l3
  subst this
  rw [k1] at l1;cases l1;rfl
 let G2:Nat→Nat:=fun b => if h:∃ m,X b m then h.choose else g.G b
 have G2x:∀ b m,X b m→G2 b = m:=fun b m h => by
  show (if h:∃ m,X b m then h.choose else g.G b) = m
  rw [dif_pos ⟨m,h⟩]
  exact Xone b _ _ (Exists.choose_spec (⟨m,h⟩:∃ m,X b m)) h
 have G2n:∀ b,(¬ ∃ m,X b m)→G2 b = g.G b:=fun b h => dif_neg h
 have he:Ext w g.G w G2:=fun b p hp => ⟨by
  by_cases h:∃ m,X b m
  ·obtain ⟨m,hm⟩:=h
   rw [G2x b m hm]
   obtain ⟨o,z,e,sh,rows,k1,_,k3,rfl⟩:=hm
   obtain ⟨cs,_,_,h3,_⟩:=hI.obs o _ k1
   rw [h3 b k3] at hp
   split at hp <;> omega
  ·rw [G2n b h];exact hp,rfl⟩
 let g2:Gh:=⟨fun q => match lookL R q with
   | some o => g.blk o
   | none => 0,fun q => match lookL R q with
   | some o => g.top o
   | none => undef,G2⟩
 have at_:∀ n o,lookL R n = some o→ob2 n = (s.ob o).map (kO R s.ob)∧g2.blk n = g.blk o∧g2.top n = g.top o:=fun n o h => by
  simp only [ob2,g2,h,and_self]
 have r0:∀ (v:Value) (x:AV),Rep0 w g s.ob v x→Rep0 w g2 ob2 v (kC R s.ob x):=fun v x h => by
  cases x with
  | own o =>
   simp only [kC]
   split
   ·rename_i z e sh rows ho
    split
    ·rename_i n hn
     obtain ⟨h3,_,h5⟩:=at_ n o (Zdw n1 (ren_mem hn))
     rw [ho] at h3
     exact ⟨⟨_,h3⟩,fun z' e' sh' rows' _ => by rw [h5];exact h.2 _ _ _ _ ho⟩
    ·rename_i hn
     show RepC w G2 v (.sl sh rows)
     rw [h.2 _ _ _ _ ho]
     obtain ⟨A,c,q,val,k1,k2,k3,k4⟩:=row_is (hI.obs _ _ ho)
     obtain ⟨_,_,hsh,_,_⟩:=hI.obs _ _ ho
     rw [k1]
     refine RepC.sl A c sh rows val q 0 k2 hsh (fun hn => (k3 hn).1) (fun j row k cv hj hk => ?_) (fun j row k cv hj hk => (k4 j row k cv hj hk).2.ext he)
     obtain ⟨hlj,hlk,hlt⟩:=row_lt hsh hj hk
     have hne:rows≠[]:=fun e => by rw [e] at hlj;simp at hlj
     refine ⟨?_,by rw [Nat.zero_add];exact (k4 j row k cv hj hk).1⟩
     rw [G2x q _ ⟨o,z,e,sh,rows,ho,hn,(k3 hne).2,rfl⟩,Nat.zero_add];exact hlt
   ·trivial
  | ptr o off =>
   simp only [kC]
   split
   ·rename_i cs ho
    split
    ·rename_i n hn
     obtain ⟨h3,h4,_⟩:=at_ n o (Zdw n1 (ren_mem hn))
     rw [ho] at h3
     exact ⟨⟨_,h3⟩,fun cs' _ => by rw [h4];exact h.2 cs ho⟩
    ·trivial
   ·trivial
  | tt => obtain rfl:v = .bool true:=h;exact .bool true
  | ff => obtain rfl:v = .bool false:=h;exact .bool false
  | nil sh => obtain rfl:v = .slice none 0 0:=h;exact Z63 sh
  | c cv => exact RepC.ext he h
  | elo _ _ _ => trivial
  | elp sh rows i off =>
   obtain ⟨h1,h2,b,p,val,hv,hc⟩:=h
   exact ⟨h1,h2,b,p,val,hv,fun k cv hk' => ⟨⟨(he b _ (hc k cv hk').1.1).1,(hc k cv hk').1.2⟩,(hc k cv hk').2.ext he⟩⟩
  | _ => exact h
 have r1:∀ (v:Value) (x:AV),Rep1 w g s.ob v x→Rep1 w g2 ob2 v (k1 R s.ob x):=fun v x h => by
  cases x with
  | agg cs =>
   obtain ⟨vs,e1,e2,e3⟩:=h
   refine ⟨vs,e1,by simp [e2],fun k c hc => ?_⟩
   rw [List.getElem?_map,Option.map_eq_some_iff] at hc
   obtain ⟨c0,hc0,rfl⟩:=hc
   exact r0 _ _ (e3 k c0 hc0)
  | clo f cs =>
   obtain ⟨vs,e1,e2,e3⟩:=h
   refine ⟨vs,e1,by simp [e2],fun k c hc => ?_⟩
   rw [List.getElem?_map,Option.map_eq_some_iff] at hc
   obtain ⟨c0,hc0,rfl⟩:=hc
   exact r0 _ _ (e3 k c0 hc0)
  | tup _ => exact h
  | c _ => exact ZC (r0 v (.c _) h)
  | tt => exact ZC (r0 v .tt h)
  | ff => exact ZC (r0 v .ff h)
  | nil _ => exact ZC (r0 v (.nil _) h)
  | ptr o off => exact ZC (r0 v (.ptr o off) h)
  | own o => exact ZC (r0 v (.own o) h)
  | elp _ _ _ _ => exact ZC (r0 v (.elp _ _ _ _) h)
  | elo o i off => exact ZC (x:=.dead) trivial
  | ifc _ => exact ZC (r0 v (.ifc _) h)
  | dead => exact ZC (x:=.dead) trivial
 have rA:∀ (v:Value) (x:AV),Rep w g s.ob v x→Rep w g2 ob2 v (kA R s.ob x):=fun v x h => by
  cases x with
  | tup cs =>
   obtain ⟨vs,e1,e2,e3⟩:=h
   refine ⟨vs,e1,by simp [e2],fun k c hc => ?_⟩
   rw [List.getElem?_map,Option.map_eq_some_iff] at hc
   obtain ⟨c0,hc0,rfl⟩:=hc
   exact r1 _ _ (e3 k c0 hc0)
  | c _ => exact Z0p (r1 v (.c _) h)
  | tt => exact Z0p (r1 v .tt h)
  | ff => exact Z0p (r1 v .ff h)
  | nil _ => exact Z0p (r1 v (.nil _) h)
  | ptr o off => exact Z0p (r1 v (.ptr o off) h)
  | own o => exact Z0p (r1 v (.own o) h)
  | elp _ _ _ _ => exact Z0p (r1 v (.elp _ _ _ _) h)
  | elo o i off => exact Z0p (r1 v (.elo o i off) h)
  | ifc _ => exact Z0p (r1 v (.ifc _) h)
  | clo _ _ => exact Z0p (r1 v (.clo _ _) h)
  | agg _ => exact Z0p (r1 v (.agg _) h)
  | dead => exact Z0S (x:=.dead) trivial
 have back:∀ q x,ob2 q = some x→∃ o y,lookL R q = some o∧s.ob o = some y∧x = kO R s.ob y∧obBlk g2 q x = obBlk g o y:=fun q x h => by
  cases hl:lookL R q with
  | none => simp only [ob2,hl] at h;cases h
  | some o =>
   obtain ⟨h3,h4,h5⟩:=at_ q o hl
   rw [h3,Option.map_eq_some_iff] at h
   obtain ⟨y,hy,rfl⟩:=h
   refine ⟨o,y,rfl,hy,rfl,?_⟩
   cases y <;> simp [kO,obBlk,h4,h5]
 have renS:∀ o n,lookL R n = some o→renL R o≠none:=fun o n h hn => by
  have key:∀ (R:List (Nat×Nat)),(n,o)∈R→renL R o≠none:=by
   intro R
   induction R with
   | nil => intro h;cases h
   | cons p R ih =>
    intro h
    obtain ⟨m,q⟩:=p
    unfold renL
    split
    ·simp
    ·rename_i hne
     rcases List.mem_cons.1 h with e | h
     ·cases e;exact absurd rfl hne
     ·exact ih h
  exact key R (Z7U h) hn
 have G2o:∀ q x o y b,lookL R q = some o→s.ob o = some y→obBlk g o y = some b→x = y→G2 b = g.G b:=fun q x o y b hl hy hb _ => G2n b (fun ⟨m,hm⟩ => by
  obtain ⟨o',z,e,sh,rows,k1,k2,k3,_⟩:=hm
  have:=hI.inj o o' y _ b hy k1 hb k3
  subst this
  exact renS o q hl k2)
 refine ⟨g2,⟨by rw [Z7F];exact hI.size,fun t v hv => ?_,hI.defers,fun q x hx => ?_,fun q q' x x' b e1 e2 e3 e4 => ?_,fun q x b e1 e2 => ?_,hI.grow,fun b hb hn => ?_,fun b hb => ?_,hI.par,fun o x ho => ?_,hI.ext.trans he,hI.tb0,hI.pnum⟩⟩
 ·obtain ⟨u,hu,hv'⟩:=ZaM _ _ _ _ _ _ _ hv
  rcases hv' with rfl | rfl
  ·exact rA _ _ (hI.slots t u hu)
  ·exact Z0S (x:=.dead) trivial
 ·obtain ⟨o,y,hl,hy,rfl,_⟩:=back q x hx
  obtain ⟨_,h4,h5⟩:=at_ q o hl
  have hob:=hI.obs o y hy
  cases y with
  | gone => trivial
  | box cs =>
   obtain ⟨vs,e,e1,e2,e3,e4⟩:=hob
   refine ⟨vs,e,by rw [h4];exact e1,by simp [e2],fun k c hc => ?_,by rw [h4];exact (G2o q _ o _ _ hl hy rfl rfl).trans e4⟩
   rw [List.getElem?_map,Option.map_eq_some_iff] at hc
   obtain ⟨c0,hc0,rfl⟩:=hc
   refine ⟨r0 _ _ (e3 k c0 hc0).1,?_⟩
   have:=(e3 k c0 hc0).2
   cases c0 <;> first | trivial | exact this | (simp only [kC];split <;> first | trivial | (split <;> trivial))
  | row z e sh rows =>
   obtain ⟨cs,e1,e2,e3,e4⟩:=hob
   refine ⟨cs,by rw [h5];exact e1,e2,fun b hb => ?_,fun j row k cv hj hk => ?_⟩
   ·rw [h5] at hb
    exact (G2o q _ o _ b hl hy hb rfl).trans (e3 b hb)
   ·obtain ⟨u,hu,hr⟩:=e4 j row k cv hj hk
    exact ⟨u,hu,hr.ext he⟩
 ·obtain ⟨o,y,hl,hy,rfl,hb⟩:=back q x e1
  obtain ⟨o',y',hl',hy',rfl,hb'⟩:=back q' x' e2
  have:=hI.inj o o' y y' b hy hy' (hb ▸ e3) (hb' ▸ e4)
  subst this
  exact snd_inj n2 (Z7U hl) (Z7U hl')
 ·obtain ⟨o,y,hl,hy,rfl,hb⟩:=back q x e1
  exact hI.fresh o y b hy (hb ▸ e2)
 ·rw [←hI.old b hb hn]
  refine G2n b (fun ⟨m,hm⟩ => ?_)
  obtain ⟨o,z,e,sh,rows,k1,_,k3,_⟩:=hm
  rcases hI.fresh o _ b k1 k3 with h | h
  ·exact hn h
  ·omega
 ·rw [←hI.gz b hb]
  refine G2n b (fun ⟨m,hm⟩ => ?_)
  obtain ⟨o,z,e,sh,rows,k1,_,k3,_⟩:=hm
  have:=hI.obs_lt k1 k3
  omega
 ·obtain ⟨x',h1',h2',h3',h4'⟩:=hI.keep o x ho
  obtain ⟨k1,k2,k3⟩:=at_ o o (npar o (hI.pnum o x ho))
  rw [h1'] at k1
  refine ⟨_,k1,fun cs hc => ?_,fun z e sh rows hc => ?_,fun cs hc => ?_⟩
  ·cases x' <;> simp only [kO] at hc <;> try cases hc
   exact ⟨(h2' _ rfl).1,k2.trans (h2' _ rfl).2⟩
  ·cases x' <;> simp only [kO] at hc <;> try cases hc
   exact ⟨(h3' _ _ _ _ rfl).1,k3.trans (h3' _ _ _ _ rfl).2⟩
  ·obtain ⟨cs',rfl⟩:=h4' cs hc
   exact ⟨_,rfl⟩
end
end Go.Ev
