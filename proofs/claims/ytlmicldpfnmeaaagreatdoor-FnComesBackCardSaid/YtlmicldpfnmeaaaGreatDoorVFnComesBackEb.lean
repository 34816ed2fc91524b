/- An abstract run of a Go function's code, and that it is sound. No conditions but those that each statement names. By this repo's programs; comments are taken out. -/
import Derived.Great.BuildSlice
import Derived.Laws.OwnMore
import Derived.ArgAppend
import Derived.Lib.AppendStr
import Derived.Deep.DeepAppendRoom
import Derived.Test.YtlmicldpfnmeaaaGreatDoorVFnComesBackE
set_option linter.all false
namespace Go.Ev
section
variable {P:Program} {T:TBs} {tab:Tr} {w0:World} {gp:Gh} {obp:Nat→Option Ob} {g g':Gh} {w w':World} {a:Act} {s:St} {o:Oper}
theorem ZaX:∀ {l:List Sh} {vs:List Value},Z8v l vs = true→∀ s∈l,Z1X (zeroA s)
 | [],_,_,s,hs => by cases hs
 | q::x,v::y,h,s,hs => by
  simp only [Z8v,Bool.and_eq_true] at h
  rcases List.mem_cons.1 hs with rfl | hs
  ·exact zero_like h.1
  ·exact ZaX h.2 s hs
 | _::_,[],h,_,_ => by simp [Z8v] at h
theorem ti_like {t:TypeId} {ti:TI} (h:tiB P t ti = true) (hk:∀ e,ti.k≠.ptr e):∀ s∈ti.sh,Z1X (zeroA s):=by
 unfold tiB at h
 split at h
 ·simp only [Bool.and_eq_true] at h
  have h2:=h.2
  split at h2
  ·rename_i e he;exact absurd he (hk e)
  ·simp only [Bool.and_eq_true] at h2
   obtain ⟨⟨_,hz⟩,_⟩:=h2
   split at hz
   ·exact ZaX hz
   ·cases hz
  ·simp only [Bool.and_eq_true] at h2
   obtain ⟨_,hz⟩:=h2
   split at hz
   ·rename_i s v hsh _
    intro q hq
    rw [hsh] at hq
    simp at hq;subst hq
    exact zero_like hz
   ·cases hz
 ·cases h
theorem Z8r {t:TypeId} {ti:TI} (h:tiB P t ti = true) (hl:ti.sh.length = ti.sz):∀ e,ti.k≠.ptr e:=by
 intro e hk
 unfold tiB at h
 split at h
 ·simp only [Bool.and_eq_true] at h
  have h2:=h.2
  rw [hk] at h2
  simp only [Bool.and_eq_true,beq_iff_eq,List.isEmpty_iff] at h2
  rw [h2.1.1,h2.1.2] at hl
  cases hl
 ·cases h
theorem ti_pz {t:TypeId} {ti:TI} {e:Nat} (h:tiB P t ti = true) (hk:ti.k = .ptr e):∃ i,P.info? t = some i∧i.zero = some (.pointer none):=by
 unfold tiB at h
 split at h
 ·rename_i i d hi hd
  simp only [Bool.and_eq_true] at h
  have h2:=h.2
  rw [hk] at h2
  simp only [Bool.and_eq_true] at h2
  refine ⟨i,hi,?_⟩
  have h3:=h2.2
  split at h3
  ·assumption
  ·cases h3
 ·cases h
theorem Zc6 {ob:Nat→Option Ob} {sh:List Sh} {vs:Array Value} (hz:vs.toList = sh.map zeroV) {k:Nat} {c:AV} (hc:(sh.map zeroA)[k]? = some c):Rep0 w g ob (vs.getD k undef) c∧∃ q∈sh,c = zeroA q:=by
 rw [List.getElem?_map,Option.map_eq_some_iff] at hc
 obtain ⟨q,hq,rfl⟩:=hc
 have:vs.getD k undef = zeroV q:=by
  have h1:vs.toList[k]? = some (zeroV q):=by rw [hz,List.getElem?_map,hq];rfl
  rw [Array.getD_eq_getD_getElem?]
  simp at h1
  simp [h1]
 rw [this]
 exact ⟨(zero_rep q).1,q,List.mem_of_getElem? hq,rfl⟩
theorem box_new (hI:Inv T w0 gp obp g w a s) {d:Nat} (hd:s.ob d = none) {cs:List AV} {vs:Array Value} {e:TypeId} (hl:vs.size = cs.length) (hc:∀ k c,cs[k]? = some c→Rep0 w g s.ob (vs.getD k undef) c∧Z1X c) :
  ∃ g',Inv T w0 gp obp g' (w.alloc (.cells vs e)) (a.put (some d) (.pointer (some ⟨w.heap.size,0,none⟩))) (s.put (some d) (.ptr d 0) [(d,.box cs)]):=by
 have hne:∀ q y,s.ob q = some y→q≠d:=fun q y hy e => by rw [e,hd] at hy;cases hy
 have he:Ext w g.G (w.alloc (.cells vs e)) g.G:=ZbP hI.gz _
 have hk:Keep g s.ob ⟨fset g.blk d w.heap.size,vset g.top d undef,g.G⟩ (updCh [(d,.box cs)] s.ob):=fun q y hy => by
  have:=hne q y hy
  exact Keep.one (by rw [Z1U,if_neg this];exact hy) (by simp [fset,this]) (by simp [vset,this])
 refine ⟨_,hI.fresh_ob hd (x:=.box cs) (.cells vs e) undef g.G (fun _ _ => rfl) (fun b hb => hI.gz b (by omega)) ?_ (.inl (by simp [obBlk,fset])) ?_⟩
 ·refine ⟨vs,e,by simpa [fset] using heap_alloc_new w (.cells vs e),hl,fun k c hk' => ⟨Rep0.keep (g':=⟨fset g.blk d w.heap.size,vset g.top d undef,g.G⟩) he hk (hc k c hk').1,(hc k c hk').2⟩,?_⟩
  simp only [fset,if_true]
  exact hI.gz _ (Nat.le_refl _)
 ·exact ⟨⟨.box cs,by simp [Z1U]⟩,fun cs' _ => by simp [fset]⟩
theorem good_alloc (hT:TabOk P tab) (hI:Inv T w0 gp obp g w a s) {e:TypeId} (ho:o.op = .alloc e) {v:AV} {ch:List (Nat×Ob)} (h:(opAct (F0 P T) tab s o).sem (F0 P T) (fun v' ch' => v' = v∧ch' = ch)):Good P T w0 gp obp w a s o v ch:=by
 unfold opAct at h
 simp only [ho] at h
 split at h
 ·rename_i d te hdst hte
  split at h
  ·split at h
   ·rename_i q hq
    split at h
    ·exact h.elim
    ·rename_i hd
     obtain ⟨rfl,rfl⟩:=h
     simp only [Option.isSome_iff_ne_none,ne_eq,Decidable.not_not] at hd
     obtain ⟨i,hi,hz⟩:=ti_pz (hT _ _ hte) hq
     obtain ⟨g',hI'⟩:=box_new hI (e:=e) hd (cs:=[.dead]) (vs:=(Value.pointer none).cells) (by simp [Value.cells]) (fun k c hc => by
      cases k with
      | zero => obtain rfl:=Option.some.inj hc;exact ⟨trivial,trivial⟩
      | succ k => cases hc)
     refine fun Q => Z51 (v:=.pointer (some ⟨w.heap.size,0,none⟩)) (w':=w.alloc (.cells (Value.pointer none).cells e)) ?_ ⟨g',by rw [hdst];exact hI'⟩
     unfold execOp
     simp [ho,Instr.alloc,zeroValue,typeInfo,hi,hz,newVar,newRow]
   ·exact h.elim
  ·rename_i hd
   obtain ⟨rfl,rfl⟩:=h
   simp only [Bool.or_eq_true,Option.isSome_iff_ne_none,ne_eq,decide_eq_true_eq,not_or,Decidable.not_not] at hd
   have hti:=hT _ _ hte
   obtain ⟨hd,hshl⟩:=hd
   ·have hk:∀ q,te.k≠.ptr q:=fun q hq => Z8r hti hshl q hq
    obtain ⟨hsh,i,z,hi,_,_,hz,hzc,hzs⟩:=ZbO hti hk
    obtain ⟨g',hI'⟩:=box_new hI (e:=e) hd (cs:=te.sh.map zeroA) (vs:=z.cells) (by rw [hzs,List.length_map,hsh]) (fun k c hc => by
     obtain ⟨h1,q,hq,rfl⟩:=Zc6 (w:=w) (g:=g) (ob:=s.ob) hzc hc
     exact ⟨h1,ti_like hti hk q hq⟩)
    refine fun Q => Z51 (v:=.pointer (some ⟨w.heap.size,0,none⟩)) (w':=w.alloc (.cells z.cells e)) ?_ ⟨g',by rw [hdst];exact hI'⟩
    unfold execOp
    simp [ho,Instr.alloc,zeroValue,typeInfo,hi,hz,newVar,newRow]
 ·exact h.elim
theorem good_box (hI:Inv T w0 gp obp g w a s) {e:TypeId} {x:Operand} (ho:o.op = .box e x) {v:AV} {ch:List (Nat×Ob)} (h:(opAct (F0 P T) tab s o).sem (F0 P T) (fun v' ch' => v' = v∧ch' = ch)):Good P T w0 gp obp w a s o v ch:=by
 unfold opAct at h
 simp only [ho] at h
 split at h
 ·rename_i d cs hdst hcs
  split at h
  ·exact h.elim
  ·rename_i hd
   obtain ⟨rfl,rfl⟩:=h
   simp only [Option.isSome_iff_ne_none,ne_eq,Decidable.not_not] at hd
   obtain ⟨hl,hc⟩:=Z87 hI.obs hcs (Z4b e (hI.eval x))
   obtain ⟨g',hI'⟩:=box_new hI (e:=e) hd hl (fun k c hk => ⟨(hc k c hk).1,(hc k c hk).2.1⟩)
   refine fun Q => Z51 (v:=.pointer (some ⟨w.heap.size,0,none⟩)) (w':=w.alloc (.cells (a.eval x).cells e)) ?_ ⟨g',by rw [hdst];exact hI'⟩
   unfold execOp
   simp [ho,Instr.box,newVar,newRow]
 ·exact h.elim
def Z4p (us:Array Value):Nat→List Value→Array Value
 | _,[] => us
 | o,v::r => Z4p (us.setIfInBounds o v) (o + 1) r
theorem Z56:∀ (vs:List Value) (us:Array Value) (o:Nat),(Z4p us o vs).size = us.size
 | [],_,_ => rfl
 | v::r,us,o => by rw [Z4p,Z56 r];simp
theorem Z5D (b:Nat):∀ (vs:List Value) (o:Nat) (w:World) (us:Array Value) (e:TypeId) (fr:Nat×Nat),w.heap[b]? = some (.cells us e fr)→(w.setCells b o vs).heap[b]? = some (.cells (Z4p us o vs) e fr)
 | [],_,_,_,_,_,h => h
 | v::r,o,w,us,e,fr,h => by
  rw [World.setCells,Z4p]
  refine Z5D b r (o + 1) _ _ e fr ?_
  unfold World.setCell
  simp [h,Array.getElem?_modify]
theorem Z2G (b:Nat):∀ (vs:List Value) (o:Nat) (w:World) (k:Nat),k≠b→(w.setCells b o vs).heap[k]? = w.heap[k]?
 | [],_,_,_,_ => rfl
 | v::r,o,w,k,h => by
  rw [World.setCells,Z2G b r (o + 1) _ k h]
  unfold World.setCell
  simp only [Array.getElem?_modify]
  rw [if_neg (fun e => h e.symm)]
theorem Z4c (b:Nat):∀ (vs:List Value) (o:Nat) (w:World),(w.setCells b o vs).heap.size = w.heap.size
 | [],_,_ => rfl
 | v::r,o,w => by rw [World.setCells,Z4c b r];unfold World.setCell;simp
theorem Z39 (b:Nat):∀ (vs:List Value) (o:Nat) (w:World),(w.setCells b o vs).os = w.os∧(w.setCells b o vs).tape = w.tape∧(w.setCells b o vs).output = w.output
 | [],_,_ => ⟨rfl,rfl,rfl⟩
 | v::r,o,w => by rw [World.setCells];exact Z39 b r (o + 1) (w.setCell ⟨b,o,none⟩ v)
theorem Z5Z:∀ (r:List AV) (cs:List AV) (o:Nat),(setCells cs o r).length = cs.length
 | [],_,_ => rfl
 | v::r,cs,o => by rw [setCells,Z5Z r];simp
theorem Ze6 {ob:Nat→Option Ob} (R:Value→AV→Prop):∀ (vs:List Value) (us:Array Value) (cs:List AV) (r:List AV) (o:Nat),us.size = cs.length→vs.length = r.length →
  (∀ k c,cs[k]? = some c→R (us.getD k undef) c)→(∀ k c,r[k]? = some c→R (vs.getD k undef) c)→∀ k c,(setCells cs o r)[k]? = some c→R ((Z4p us o vs).getD k undef) c
 | [],us,cs,[],o,_,_,h,_ => h
 | [],_,_,_::_,_,_,hl,_,_ => by simp at hl
 | _::_,_,_,[],_,_,hl,_,_ => by simp at hl
 | v::vs,us,cs,x::r,o,hs,hl,h,h' => by
  rw [setCells,Z4p]
  refine Ze6 (ob:=ob) R vs _ _ r (o + 1) (by simp [hs]) (by simpa using hl) (fun k c hk => ?_) (fun k c hk => h' (k + 1) c (by simpa using hk))
  rw [List.getElem?_set] at hk
  by_cases e:o = k
  ·subst e
   by_cases hlt:o < cs.length
   ·rw [if_pos rfl,if_pos hlt] at hk
    obtain rfl:=Option.some.inj hk
    have:(us.setIfInBounds o v).getD o undef = v:=by simp [Array.getD_eq_getD_getElem?,hs,hlt]
    rw [this];exact h' 0 _ rfl
   ·rw [if_pos rfl,if_neg hlt] at hk;cases hk
  ·rw [if_neg e] at hk
   have:(us.setIfInBounds o v).getD k undef = us.getD k undef:=by simp [Array.getD_eq_getD_getElem?,Array.getElem?_setIfInBounds_ne e]
   rw [this];exact h k c hk
theorem Z9u:∀ {x y:List Sh},shsB x y = true→x = y:=by
 have key:∀ (n:Nat) (x y:List Sh),SizeOf.sizeOf x < n→shsB x y = true→x = y:=by
  intro n
  induction n with
  | zero => intro x y h;omega
  | succ n ih =>
   intro x y hn h
   match x,y,h with
   | [],[],_ => rfl
   | [],_::_,h => simp [shsB] at h
   | _::_,[],h => simp [shsB] at h
   | p::x,q::y,h =>
    simp only [shsB,Bool.and_eq_true] at h
    have h1:=ih x y (by simp at hn;omega) h.2
    have h2:p = q:=by
     have h3:=h.1
     cases p <;> cases q <;> simp only [shB,beq_iff_eq] at h3 <;> first | rfl | (cases h3;rfl) | cases h3 | skip
     rename_i l m
     rw [ih l m (by simp at hn;omega) h3]
    rw [h1,h2]
 intro x y h
 exact key _ x y (Nat.lt_succ_self _) h
theorem Z8S {ob:Nat→Option Ob}:∀ {cs:List AV} {l:List CV} (vs:Nat→Value),Zb4 cs = some l→(∀ k c,cs[k]? = some c→Rep0 w g ob (vs k) c)→l.length = cs.length∧∀ k c,l[k]? = some c→RepC w g.G (vs k) c
 | [],l,vs,h,_ => by
  simp only [Zb4,Option.some.injEq] at h
  subst h
  exact ⟨rfl,fun k c hc => by simp at hc⟩
 | x::xs,l,vs,h,hr => by
  unfold Zb4 at h
  split at h
  ·rename_i c cs' h1 h2
   obtain rfl:=Option.some.inj h
   obtain ⟨hl,hrr⟩:=Z8S (fun k => vs (k + 1)) h2 (fun k c hc => hr (k + 1) c (by simpa using hc))
   refine ⟨by simp [hl],fun k c' hk => ?_⟩
   cases k with
   | zero =>
    simp at hk;subst hk
    have h0:=hr 0 x rfl
    split at h1 <;> first | (obtain rfl:=Option.some.inj h1) | cases h1
    ·exact h0
    ·rw [show vs 0 = .bool true from h0];exact .bool _
    ·rw [show vs 0 = .bool false from h0];exact .bool _
    ·rw [show vs 0 = .slice none 0 0 from h0];exact Z63 _
   | succ k => exact hrr k c' (by simpa using hk)
  ·cases h
theorem Za7:∀ (r l:List CV) (o:Nat),(setCs l o r).length = l.length
 | [],_,_ => rfl
 | v::r,l,o => by rw [setCs,Za7 r];simp
theorem ZbU:∀ (r l:List CV) (o k:Nat),(setCs l o r)[k]? = if o≤k∧k < o + r.length∧k < l.length then r[k - o]? else l[k]?
 | [],l,o,k => by rw [setCs,if_neg (by simp;omega)]
 | v::r,l,o,k => by
  rw [setCs,ZbU r,List.getElem?_set,List.length_set,List.length_cons]
  by_cases h1:o = k
  ·subst h1
   rw [if_neg (by omega),if_pos rfl]
   by_cases h2:o < l.length
   ·rw [if_pos h2,if_pos (by omega),Nat.sub_self];rfl
   ·rw [if_neg h2,if_neg (by omega)];exact (List.getElem?_eq_none (by omega)).symm
  ·rw [if_neg h1]
   by_cases h2:o + 1≤k∧k < o + 1 + r.length∧k < l.length
   ·rw [if_pos h2,if_pos (by omega),show k - o = (k - (o + 1)) + 1 by omega,List.getElem?_cons_succ]
   ·rw [if_neg h2,if_neg (by omega)]
theorem Z9i:∀ (r:List Value) (us:Array Value) (o k:Nat),(Z4p us o r)[k]? = if o≤k∧k < o + r.length∧k < us.size then r[k - o]? else us[k]?
 | [],us,o,k => by rw [Z4p,if_neg (by simp;omega)]
 | v::r,us,o,k => by
  rw [Z4p,Z9i r,Array.getElem?_setIfInBounds,Array.size_setIfInBounds,List.length_cons]
  by_cases h1:o = k
  ·subst h1
   rw [if_neg (by omega),if_pos rfl]
   by_cases h2:o < us.size
   ·rw [if_pos h2,if_pos (by omega),Nat.sub_self];rfl
   ·rw [if_neg h2,if_neg (by omega)];exact (Array.getElem?_eq_none (by omega)).symm
  ·rw [if_neg h1]
   by_cases h2:o + 1≤k∧k < o + 1 + r.length∧k < us.size
   ·rw [if_pos h2,if_pos (by omega),show k - o = (k - (o + 1)) + 1 by omega,List.getElem?_cons_succ]
   ·rw [if_neg h2,if_neg (by omega)]
theorem elo_store (hT:TabOk P tab) (hI:Inv T w0 gp obp g w a s) {t:TypeId} {p x:Operand} (ho:o.op = .store t p x) {q el off:Nat} {i:Int} {sh:List Sh} {rows:List (List CV)} {ti:TI} {vs:List AV} {l:List CV}
  (hp:Rep w g s.ob (a.eval p) (.elo q i off)) (hob:s.ob q = some (.row false el sh rows)) (htab:tab.get t = some ti) (hcs:cellsOf s.ob (tyFix tab t (s.eval x)) = some vs) (hpl:Zb4 vs = some l) (hvl:l.length = ti.sz) (hle:off + ti.sz≤sh.length)
  (hsl:shsB (l.map CV.sh) ((sh.drop off).take ti.sz) = true):Good P T w0 gp obp w a s o .dead [(q,.row false el sh (setR rows i off l))]:=by
 obtain ⟨ii,hi,hsz,_⟩:=Z5A (hT _ _ htab)
 obtain ⟨⟨h0,h1⟩,b,n,c,htop,hpv⟩:=hp.2 _ _ _ _ hob
 have hrep:=hI.obs _ _ hob
 obtain ⟨cs,hown,hsh,hG,hc⟩:=id hrep
 have hlt:i.toNat < rows.length:=by omega
 have hj:rows[i.toNat]? = some (rows.getD i.toNat []):=by simp [hlt]
 have hrlen:(rows.getD i.toNat []).length = sh.length:=by have:=congrArg List.length (hsh _ (List.mem_of_getElem? hj));simpa using this
 have hb:(g.top q).ownBlock = some b:=by rw [htop];rfl
 have hGb:g.G b = 0:=by rw [hG b hb];rfl
 obtain ⟨cap,cur,h3,h4,h5,h6,h7,hn,hcc⟩:∃ cap cur,w.heap[b]? = some (.cells cur el (0,0))∧rows.length≤cap∧cap≤maxLen∧cur.size = cap * sh.length∧cur.toList.take (rows.length * sh.length) = cs∧n = rows.length∧c = cap:=by
  rcases hown.2 with ⟨k1,_⟩ | ⟨q',cap,cur,k1,_,k3,k4,k5,k6,k7⟩
  ·rw [htop] at k1;cases k1
  ·rw [htop] at k1
   simp only [Value.slice.injEq,Option.some.injEq,Addr.mk.injEq] at k1
   obtain ⟨⟨rfl,_⟩,rfl,rfl⟩:=k1
   exact ⟨_,cur,k3,k4,k5,k6,k7,rfl,rfl⟩
 obtain ⟨hvs,hvc⟩:=Z87 hI.obs hcs (Z4b t (hI.eval x))
 obtain ⟨hpl1,hpl2⟩:=Z8S (fun k => (a.eval x).cells.getD k undef) hpl (fun k c hk => (hvc k c hk).1)
 have hcl:(a.eval x).cells.size = ti.sz:=by rw [hvs,←hpl1,hvl]
 have hone:∀ u∈(a.eval x).cells.toList,u.oneCell' = true:=by
  intro u hu
  obtain ⟨k,hk⟩:=List.getElem?_of_mem hu
  have hlt:k < vs.length:=by have:=(List.getElem?_eq_some_iff.1 hk).1;simp at this;omega
  have:=(hvc k _ (List.getElem?_eq_getElem hlt)).2.2
  have e:(a.eval x).cells.getD k undef = u:=by
   rw [Array.getD_eq_getD_getElem?]
   simp at hk
   simp [hk]
  rwa [e] at this
 have hrow:(i.toNat + 1) * sh.length≤cap * sh.length:=Nat.mul_le_mul_right _ (by omega)
 rw [Nat.add_mul,Nat.one_mul] at hrow
 have hin:i.toNat * sh.length + off + ti.sz≤cur.size:=by rw [h6];omega
 let W:=w.setCells b (i.toNat * sh.length + off) (a.eval x).cells.toList
 have hrun:(execOp a.eval o).run P w = .ok .skip W:=by
  have hst:=run_storeCells_cells (P:=P) b (i.toNat * sh.length + off) (a.eval x).cells.toList 0 w (fun j hj => by
    simp only [World.cell?,h3,Nat.add_zero]
    have:i.toNat * sh.length + off + j < cur.size:=by simp at hj;omega
    simp [this]) (fun j hj => by simp [World.frozen?,h3]) hone
  unfold execOp
  simp only [ho,hpv,Instr.storeAt,Instr.sureAddr,storeVar,Sem.run_bind,Sem.run_pure,Result.andThen_ok,Z5R (hT _ _ htab),ne_eq,hcl,not_true_eq_false,if_false]
  rw [Nat.add_zero] at hst
  simp only [hst,Result.andThen_ok]
  rfl
 refine fun Q => wp_skip hrun ⟨g,?_⟩
 have hext:Ext w g.G W g.G:=fun b' p' hp' => ⟨hp',by
  have hb:b'≠b:=fun e => by rw [e,hGb] at hp';omega
  simp only [W,World.cell?,Z2G _ _ _ _ _ hb]⟩
 have hrl:(setR rows i off l).length = rows.length:=by simp [setR]
 have hk:Keep g s.ob g (updCh [(q,.row false el sh (setR rows i off l))] s.ob):=fun y z hz => by
  by_cases e:y = q
  ·subst e
   rw [hob] at hz;obtain rfl:=Option.some.inj hz
   exact ⟨_,by rw [Z1U,if_pos rfl],(fun cs' hc => by cases hc),fun z' e' sh' rows' hc => by cases hc;exact ⟨⟨false,rows,rfl,hrl.symm⟩,rfl⟩,fun cs' hc => by cases hc⟩
  ·exact Keep.one (by rw [Z1U,if_neg e];exact hz) rfl rfl
 have oblk:∀ y z,updCh [(q,.row false el sh (setR rows i off l))] s.ob y = some z→∃ z0,s.ob y = some z0∧obBlk g y z = obBlk g y z0:=fun y z hz => by
  rw [Z1U] at hz
  by_cases e:y = q
  ·subst e;rw [if_pos rfl] at hz;obtain rfl:=Option.some.inj hz
   exact ⟨_,hob,rfl⟩
  ·rw [if_neg e] at hz;exact ⟨z,hz,rfl⟩
 have hq:=hI.obs_lt hob (b:=b) hb
 refine hI.change hext hk (Z0S (x:=.dead) trivial) (fun y z hz => ?_) (fun y y' z z' b h1 h2 h3 h4 => ?_) (fun y z b h1 h2 => ?_) ⟨?_,?_,?_,?_,?_⟩ (fun b _ _ => rfl) (fun b hb => hI.gz b (by rw [Z4c] at hb;exact hb))
 ·rw [Z1U] at hz
  by_cases e:y = q
  ·subst e;rw [if_pos rfl] at hz;obtain rfl:=Option.some.inj hz
   have hW:=Z5D b (a.eval x).cells.toList (i.toNat * sh.length + off) w cur el (0,0) h3
   refine ⟨(Z4p cur (i.toNat * sh.length + off) (a.eval x).cells.toList).toList.take (rows.length * sh.length),⟨by simp [Z56,h6,hrl];rw [←Nat.mul_min_mul_right,Nat.min_eq_left (Nat.mul_le_mul_right _ h4)],.inr ⟨b,cap,_,by rw [htop,hn,hrl,hcc],Nat.zero_le _,hW,by rw [hrl];exact h4,h5,by rw [Z56,h6],by rw [hrl]⟩⟩,fun row hrow => ?_,fun b' hb' => by rw [hG b' hb'];rfl,fun j row k cv hj' hk' => ?_⟩
   ·unfold setR at hrow
    rw [List.mem_iff_getElem?] at hrow
    obtain ⟨j,hj'⟩:=hrow
    rw [List.getElem?_set] at hj'
    split at hj'
    ·obtain rfl:=Option.some.inj hj'
     apply List.ext_getElem?
     intro k
     rw [List.getElem?_map,ZbU,hvl,hrlen]
     have hs0:=hsh _ (List.mem_of_getElem? hj)
     have hs1:sh[k]? = ((rows.getD i.toNat [])[k]?).map CV.sh:=by rw [←List.getElem?_map,hs0]
     split
     ·rename_i hk3
      have:=Z9u hsl
      have h8:(l.map CV.sh)[k - off]? = sh[k]?:=by
       rw [this,List.getElem?_take,if_pos (by omega),List.getElem?_drop];congr 1;omega
      rw [←h8,List.getElem?_map]
     ·exact hs1.symm
    ·exact hsh _ (List.mem_of_getElem? hj')
   ·unfold setR at hj'
    rw [List.getElem?_set] at hj'
    have look:∀ k',k' < sh.length→∀ j',j' < rows.length→((Z4p cur (i.toNat * sh.length + off) (a.eval x).cells.toList).toList.take (rows.length * sh.length))[j' * sh.length + k']? = (Z4p cur (i.toNat * sh.length + off) (a.eval x).cells.toList)[j' * sh.length + k']?:=fun k' hk1 j' hj1 => by
     have:(j' + 1) * sh.length≤rows.length * sh.length:=Nat.mul_le_mul_right _ hj1
     rw [Nat.add_mul] at this
     rw [List.getElem?_take,if_pos (by omega)];simp
    split at hj'
    ·rename_i e2
     obtain rfl:=Option.some.inj hj'
     have hkl:k < sh.length:=by
      have:=(List.getElem?_eq_some_iff.1 hk').1
      rw [Za7,hrlen] at this;exact this
     rw [ZbU,hvl,hrlen] at hk'
     rw [←e2,look k hkl _ hlt,Z9i]
     have hcsz:(a.eval x).cells.toList.length = ti.sz:=by simp [hcl]
     rw [hcsz]
     by_cases h9:off≤k∧k < off + ti.sz
     ·rw [if_pos (by omega)] at hk'
      have hxl:k - off < (a.eval x).cells.size:=by omega
      rw [if_pos (by omega)]
      refine ⟨(a.eval x).cells.getD (k - off) undef,?_,(hpl2 _ _ hk').ext hext⟩
      rw [show i.toNat * sh.length + k - (i.toNat * sh.length + off) = k - off by omega]
      simp [hxl]
     ·rw [if_neg (by omega)] at hk'
      rw [if_neg (by omega)]
      obtain ⟨v,hv,hr⟩:=hc _ _ _ _ hj hk'
      refine ⟨v,?_,hr.ext hext⟩
      rw [←h7,List.getElem?_take] at hv
      split at hv
      ·simpa using hv
      ·cases hv
    ·rename_i e2
     obtain ⟨hlj,hlk,hlt2⟩:=row_lt hsh hj' hk'
     obtain ⟨v,hv,hr⟩:=hc _ _ _ _ hj' hk'
     refine ⟨v,?_,hr.ext hext⟩
     rw [look k hlk _ hlj,Z9i,if_neg]
     ·rw [←h7,List.getElem?_take,if_pos hlt2] at hv
      simpa using hv
     ·have hcsz:(a.eval x).cells.toList.length = ti.sz:=by simp [hcl]
      rw [hcsz]
      rintro ⟨k1,k2,_⟩
      rcases Nat.lt_or_gt_of_ne e2 with h | h
      ·have:(i.toNat + 1) * sh.length≤j * sh.length:=Nat.mul_le_mul_right _ h
       rw [Nat.add_mul] at this;omega
      ·have:(j + 1) * sh.length≤i.toNat * sh.length:=Nat.mul_le_mul_right _ h
       rw [Nat.add_mul] at this;omega
  ·rw [if_neg e] at hz
   refine (hI.obs y z hz).keep hext hk (fun b' hb' => ⟨Z2G _ _ _ _ _ ?_,rfl⟩) rfl rfl
   intro eb
   exact e (hI.inj y q z _ b' hz hob hb' (by rw [eb];exact hb))
 ·obtain ⟨z0,hz0,e0⟩:=oblk y z h1
  obtain ⟨z1,hz1,e1⟩:=oblk y' z' h2
  exact hI.inj y y' z0 z1 b hz0 hz1 (e0 ▸ h3) (e1 ▸ h4)
 ·obtain ⟨z0,hz0,e0⟩:=oblk y z h1
  exact hI.fresh y z0 b hz0 (e0 ▸ h2)
 ·rw [(Z39 _ _ _ _).1];exact hI.grow.os
 ·rw [(Z39 _ _ _ _).2.1];exact hI.grow.tape
 ·rw [(Z39 _ _ _ _).2.2];exact hI.grow.output
 ·rw [Z4c];exact hI.grow.size
 ·intro k hk' hkp
  have hne:k≠b:=fun e => by
   rcases hI.fresh q _ b hob hb with h | h
   ·rw [e] at hkp;exact hkp h
   ·omega
  rw [Z2G _ _ _ _ _ hne]
  exact hI.grow.block k hk' hkp
theorem good_store (hT:TabOk P tab) (hI:Inv T w0 gp obp g w a s) {t:TypeId} {p x:Operand} (ho:o.op = .store t p x) {v:AV} {ch:List (Nat×Ob)} (h:(opAct (F0 P T) tab s o).sem (F0 P T) (fun v' ch' => v' = v∧ch' = ch)):Good P T w0 gp obp w a s o v ch:=by
 unfold opAct at h
 simp only [ho] at h
 have hp:=hI.eval p
 split at h
 ·rename_i q off ti vs ep htab hcs
  rw [ep] at hp
  split at h
  ·rename_i cs hob
   split at h
   ·rename_i hle
    obtain ⟨hvl,hle⟩:=hle
    obtain ⟨rfl,rfl⟩:=h
    obtain ⟨i,hi,hsz,_⟩:=Z5A (hT _ _ htab)
    have hpv:=hp.2 cs hob
    obtain ⟨us,el,hh,hl,hc,hG⟩:=hI.obs _ _ hob
    obtain ⟨hvs,hvc⟩:=Z87 hI.obs hcs (Z4b t (hI.eval x))
    have hone:∀ u∈(a.eval x).cells.toList,u.oneCell' = true:=by
     intro u hu
     obtain ⟨k,hk⟩:=List.getElem?_of_mem hu
     have hlt:k < vs.length:=by have:=(List.getElem?_eq_some_iff.1 hk).1;simp at this;omega
     have:=(hvc k _ (List.getElem?_eq_getElem hlt)).2.2
     have e:(a.eval x).cells.getD k undef = u:=by
      rw [Array.getD_eq_getD_getElem?]
      simp at hk
      simp [hk]
     rwa [e] at this
    have hrun:(execOp a.eval o).run P w = .ok .skip (w.setCells (g.blk q) off (a.eval x).cells.toList):=by
     have hst:=run_storeCells_cells (P:=P) (g.blk q) off (a.eval x).cells.toList 0 w (fun j hj => by
       simp only [World.cell?,hh,Nat.add_zero]
       have:off + j < us.size:=by simp at hj;omega
       simp [this]) (fun j hj => by simp [World.frozen?,hh]) hone
     unfold execOp
     simp only [ho,hpv,Instr.storeAt,Instr.sureAddr,storeVar,Sem.run_bind,Sem.run_pure,Result.andThen_ok,Z5R (hT _ _ htab),ne_eq,hvs,hvl,not_true_eq_false,if_false]
     rw [Nat.add_zero] at hst
     simp only [hst,Result.andThen_ok]
    refine fun Q => wp_skip hrun ⟨g,?_⟩
    have hext:Ext w g.G (w.setCells (g.blk q) off (a.eval x).cells.toList) g.G:=fun b p' hp' => ⟨hp',by
     have hb:b≠g.blk q:=fun e => by rw [e,hG] at hp';omega
     simp only [World.cell?,Z2G _ _ _ _ _ hb]⟩
    have hk:Keep g s.ob g (updCh [(q,.box (setCells cs off vs))] s.ob):=fun y z hz => by
     by_cases e:y = q
     ·subst e
      refine ⟨_,by rw [Z1U,if_pos rfl],fun cs' _ => ⟨⟨cs,?_⟩,rfl⟩,(fun _ _ _ _ hc => by cases hc),fun _ _ => ⟨_,rfl⟩⟩
      rw [hob] at hz;exact (Option.some.inj hz).symm
     ·exact Keep.one (by rw [Z1U,if_neg e];exact hz) rfl rfl
    have oblk:∀ y z,updCh [(q,.box (setCells cs off vs))] s.ob y = some z→∃ z0,s.ob y = some z0∧obBlk g y z = obBlk g y z0:=fun y z hz => by
     rw [Z1U] at hz
     by_cases e:y = q
     ·subst e;rw [if_pos rfl] at hz;obtain rfl:=Option.some.inj hz
      exact ⟨_,hob,rfl⟩
     ·rw [if_neg e] at hz;exact ⟨z,hz,rfl⟩
    have hq:=hI.obs_lt hob (b:=g.blk q) rfl
    refine hI.change hext hk (Z0S (x:=.dead) trivial) (fun y z hz => ?_) (fun y y' z z' b h1 h2 h3 h4 => ?_) (fun y z b h1 h2 => ?_) ⟨?_,?_,?_,?_,?_⟩ (fun b _ _ => rfl) (fun b hb => hI.gz b (by rw [Z4c] at hb;exact hb))
    ·rw [Z1U] at hz
     by_cases e:y = q
     ·subst e;rw [if_pos rfl] at hz;obtain rfl:=Option.some.inj hz
      refine ⟨Z4p us off (a.eval x).cells.toList,el,Z5D _ _ _ _ _ _ _ hh,by rw [Z56,Z5Z,hl],?_,hG⟩
      exact Ze6 (ob:=s.ob) (fun u c => Rep0 (w.setCells (g.blk y) off (a.eval x).cells.toList) g (updCh [(y,.box (setCells cs off vs))] s.ob) u c∧Z1X c) _ us cs vs off hl (by simp;omega)
       (fun k c hk' => ⟨(hc k c hk').1.keep hext hk,(hc k c hk').2⟩) (fun k c hk' => by
        have h1:=hvc k c hk'
        have e:(a.eval x).cells.toList.getD k undef = (a.eval x).cells.getD k undef:=by simp [List.getD_eq_getElem?_getD,Array.getD_eq_getD_getElem?]
        rw [e]
        exact ⟨h1.1.keep hext hk,h1.2.1⟩)
     ·rw [if_neg e] at hz
      refine (hI.obs y z hz).keep hext hk (fun b hb => ⟨Z2G _ _ _ _ _ ?_,rfl⟩) rfl rfl
      intro eb
      exact e (hI.inj y q z _ b hz hob hb (by rw [eb];rfl))
    ·obtain ⟨z0,hz0,e0⟩:=oblk y z h1
     obtain ⟨z1,hz1,e1⟩:=oblk y' z' h2
     exact hI.inj y y' z0 z1 b hz0 hz1 (e0 ▸ h3) (e1 ▸ h4)
    ·obtain ⟨z0,hz0,e0⟩:=oblk y z h1
     exact hI.fresh y z0 b hz0 (e0 ▸ h2)
    ·rw [(Z39 _ _ _ _).1];exact hI.grow.os
    ·rw [(Z39 _ _ _ _).2.1];exact hI.grow.tape
    ·rw [(Z39 _ _ _ _).2.2];exact hI.grow.output
    ·rw [Z4c];exact hI.grow.size
    ·intro k hk' hkp
     have hne:k≠g.blk q:=fun e => by
      rcases hI.fresh q _ (g.blk q) hob rfl with h | h
      ·rw [e] at hkp;exact hkp h
      ·omega
     rw [Z2G _ _ _ _ _ hne]
     exact hI.grow.block k hk' hkp
   ·exact h.elim
  ·exact h.elim
 ·rename_i q i off ti vs ep htab hcs
  rw [ep] at hp
  split at h
  ·rename_i el sh rows l hob hpl
   split at h
   ·rename_i hle
    obtain ⟨hvl,hle,hsl⟩:=hle
    obtain ⟨rfl,rfl⟩:=h
    exact elo_store hT hI ho hp hob htab hcs hpl hvl hle hsl
   ·exact h.elim
  ·exact h.elim
 ·exact h.elim
end
end Go.Ev
namespace Go.Ev
section
variable {P:Program} {T:TBs} {tab:Tr} {w0:World} {gp:Gh} {obp:Nat→Option Ob} {g g':Gh} {w w':World} {a:Act} {s:St} {o:Oper}
theorem Z9X (off:Nat):∀ (l:List Value) (k:Nat) (us:Array Value),(l.zipIdx k).foldl (fun cs (x:Value×Nat) => cs.setIfInBounds (off + x.2) x.1) us = Z4p us (off + k) l
 | [],_,_ => rfl
 | v::r,k,us => by
  rw [List.zipIdx_cons,List.foldl_cons,Z4p,Z9X off r (k + 1)]
  rfl
theorem foldl_arr (off:Nat) (v us:Array Value):v.zipIdx.foldl (fun cs (c,j) => cs.setIfInBounds (off + j) c) us = Z4p us off v.toList:=by
 rw [←Array.foldl_toList,Array.toList_zipIdx]
 exact Z9X off v.toList 0 us
def Z8s (w:World) (g:Gh) (s:St) (us:Array Value) (cs:List AV):Prop :=
 us.size = cs.length∧∀ k c,cs[k]? = some c→Rep0 w g s.ob (us.getD k undef) c∧Z1X c
theorem Ze0 (hI:Inv T w0 gp obp g w a s) (ev:Operand→AV)  (places:Nat→Option (Nat×Nat)) (pl:List (Nat×Nat)) (hpl:∀ i off t ti,pl[i]? = some (off,t)→tab.get t = some ti→places i = some (off,ti.sz)) :
  ∀ (parts:List (Nat×Operand)) (us:Array Value) (cs res:List AV),(∀ p∈parts,Rep w g s.ob (a.eval p.2) (ev p.2))→Z8s w g s us cs→fillA pl tab s.ob cs (parts.map fun p => (p.1,ev p.2)) = some res →
   ∃ us',Instr.fill places us (parts.map fun p => (p.1,a.eval p.2)) = some us'∧Z8s w g s us' res
 | [],us,cs,res,_,hr,h => by
  simp only [List.map_nil,fillA,Option.some.injEq] at h
  subst h
  exact ⟨us,rfl,hr⟩
 | (i,x)::r,us,cs,res,hev,hr,h => by
  simp only [List.map_cons] at h ⊢
  unfold fillA at h
  split at h
  ·rename_i off t hp
   split at h
   ·rename_i ti vs hti hvs
    split at h
    ·rename_i hle
     obtain ⟨hvl,hvr⟩:=Z87 hI.obs hvs (Z4b t (hev (i,x) List.mem_cons_self))
     have hr':Z8s w g s (Z4p us off (a.eval x).cells.toList) (setCells cs off vs):=by
      refine ⟨by rw [Z56,Z5Z,hr.1],?_⟩
      refine Ze6 (ob:=s.ob) (fun u c => Rep0 w g s.ob u c∧Z1X c) _ us cs vs off hr.1 (by simp;omega) hr.2 (fun k c hk => ?_)
      have h1:=hvr k c hk
      have e:(a.eval x).cells.toList.getD k undef = (a.eval x).cells.getD k undef:=by simp [List.getD_eq_getElem?_getD,Array.getD_eq_getD_getElem?]
      rw [e];exact ⟨h1.1,h1.2.1⟩
     obtain ⟨us',h1,h2⟩:=Ze0 hI ev places pl hpl r _ _ res (fun p hp => hev p (List.mem_cons_of_mem _ hp)) hr' h
     refine ⟨us',?_,h2⟩
     unfold Instr.fill
     rw [hpl i off t ti hp hti]
     have hc1:¬ ((a.eval x).cells.size≠ti.sz):=by rw [hvl,hle.1];simp
     have hc2:¬ (off + (a.eval x).cells.size > us.size):=by rw [hvl,hr.1];omega
     simp only
     have e1:(a.eval x).cells.size = ti.sz:=by rw [hvl,hle.1]
     rw [if_neg (by simp only [Bool.or_eq_true,decide_eq_true_eq,not_or,ne_eq,Decidable.not_not];exact ⟨e1,hc2⟩),foldl_arr]
     exact h1
    ·cases h
   ·cases h
  ·cases h
theorem ti_fields {t:TypeId} {ti:TI} {fs:List (Nat×Nat)} (h:tiB P t ti = true) (hk:ti.k = .struct fs):∀ f∈fs,(P.info? f.2).isSome = true:=by
 unfold tiB at h
 split at h
 ·simp only [Bool.and_eq_true] at h
  have h2:=h.2
  rw [hk] at h2
  simp only [Bool.and_eq_true,List.all_eq_true] at h2
  exact fun f hf => h2.2 f hf
 ·cases h
theorem places_of (F:List Field) (h:∀ f∈F,(P.info? f.type).isSome = true):∃ pl,F.mapM (fun f => (P.info? f.type).map fun i => (f.offset,i.size)) = some pl∧∀ (i:Nat) (f:Field),F[i]? = some f→∃ inf,P.info? f.type = some inf∧pl[i]? = some (f.offset,inf.size):=by
 induction F with
 | nil => exact ⟨[],rfl,fun i f h => by simp at h⟩
 | cons f F ih =>
  obtain ⟨pl,h1,h2⟩:=ih (fun f' hf => h f' (List.mem_cons_of_mem _ hf))
  obtain ⟨inf,hinf⟩:=Option.isSome_iff_exists.1 (h f List.mem_cons_self)
  refine ⟨(f.offset,inf.size)::pl,by simp [List.mapM_cons,hinf,h1],fun i f' hf => ?_⟩
  cases i with
  | zero => simp at hf;subst hf;exact ⟨inf,hinf,rfl⟩
  | succ i => exact h2 i f' (by simpa using hf)
theorem good_build (hT:TabOk P tab) (hI:Inv T w0 gp obp g w a s) {t:TypeId} {parts:Array (Nat×Operand)} (ho:o.op = .build t parts) {v:AV} {ch:List (Nat×Ob)} (h:(opAct (F0 P T) tab s o).sem (F0 P T) (fun v' ch' => v' = v∧ch' = ch)):Good P T w0 gp obp w a s o v ch:=by
 unfold opAct at h
 simp only [ho] at h
 split at h
 ·rename_i fs sz by_ sh htab
  split at h
  ·rename_i cs hf
   obtain ⟨rfl,rfl⟩:=h
   have hti:=hT _ _ htab
   obtain ⟨F,hu,hF⟩:=ti_struct hti rfl
   obtain ⟨hsh,i,z,hi,_,_,hz,hzc,hzs⟩:=ZbO hti (fun e he => by cases he)
   obtain ⟨pl,hpl,hplg⟩:=places_of (P:=P) F.toList (fun f hf' => ti_fields hti rfl (f.offset,f.type) (by rw [←hF];exact List.mem_map.2 ⟨f,hf',rfl⟩))
   have hcr:Z8s w g s z.cells (sh.map zeroA):=⟨by rw [hzs,List.length_map,hsh],fun k c hk => by
    obtain ⟨h1,q,hq,rfl⟩:=Zc6 (w:=w) (g:=g) (ob:=s.ob) hzc hk
    exact ⟨h1,ti_like hti (fun e he => by cases he) q hq⟩⟩
   obtain ⟨us',h1,h2⟩:=Ze0 hI s.eval (fun i => pl.toArray[i]?) fs (fun i off u ti hp hg => by
    rw [←hF,List.getElem?_map,Option.map_eq_some_iff] at hp
    obtain ⟨f,hf',he⟩:=hp
    simp only [Prod.mk.injEq] at he
    obtain ⟨rfl,rfl⟩:=he
    obtain ⟨inf,hinf,hp⟩:=hplg i f hf'
    obtain ⟨i2,hi2,hs2,_⟩:=Z5A (hT _ _ hg)
    obtain rfl:inf = i2:=Option.some.inj (hinf.symm.trans hi2)
    simp [hp,hs2]) parts.toList z.cells _ cs (fun p _ => hI.eval p.2) hcr hf
   refine ZG hI (v:=.agg us') ?_ (show Rep1 w g s.ob _ (.agg cs) from ⟨us',rfl,h2.1,fun k c hk => (h2.2 k c hk).1⟩)
   have hb:P.built t (parts.map fun (i,x) => (i,a.eval x)).toList = some us':=by
    unfold Program.built
    simp only [hi,hu,hz,hpl]
    simpa using h1
   unfold execOp
   simp only [ho,Sem.run_bind,run_build w t _ us' hb,Result.andThen_ok,Sem.run_pure]
  ·exact h.elim
 ·exact h.elim
theorem Z1t {α:Type} (l:List α) (n:Nat):((List.range n).flatMap fun _ => l).length = n * l.length:=by
 induction n with
 | zero => simp
 | succ n ih => rw [List.range_succ,List.flatMap_append,List.length_append,ih];simp [Nat.add_mul]
theorem flat_get {α:Type} (l:List α):∀ (n k:Nat) (c:α),((List.range n).flatMap fun _ => l)[k]? = some c→l[k % l.length]? = some c∧k < n * l.length
 | 0,_,_,h => by simp at h
 | n + 1,k,c,h => by
  rw [List.range_succ,List.flatMap_append,List.getElem?_append] at h
  have hl:=Z1t l n
  rw [hl] at h
  split at h
  ·rename_i hlt
   obtain ⟨h1,h2⟩:=flat_get l n k c h
   exact ⟨h1,by rw [Nat.add_mul];omega⟩
  ·rename_i hge
   simp only [List.flatMap_cons,List.flatMap_nil,List.append_nil] at h
   have hlt:=(List.getElem?_eq_some_iff.1 h).1
   refine ⟨?_,by rw [Nat.add_mul];omega⟩
   have:k % l.length = k - n * l.length:=by
    rw [show k = (k - n * l.length) + n * l.length by omega,Nat.add_mul_mod_self_right,Nat.mod_eq_of_lt hlt];omega
   rw [this];exact h
theorem ZcY (hob:∀ o x,s.ob o = some x→RepOb w g s.ob o x) {v:Value} {x:AV} (hz:∀ q,x = .own q→∀ z e sh rows,s.ob q = some (.row z e sh rows)→z = true) (h:Rep0 w g s.ob v x):Rep0 w g s.ob v (Z7m s.ob x):=by
 cases x <;> simp only [Z7m] <;> try exact h
 split
 ·rename_i q z e sh rows hq
  show RepC w g.G v (.sl sh rows)
  rw [h.2 _ _ _ _ hq]
  obtain rfl:=hz _ rfl _ _ _ _ hq
  exact Ze1 (hob _ _ hq)
 ·trivial
theorem plainV_rep (hob:∀ o x,s.ob o = some x→RepOb w g s.ob o x) {v:Value} {x:AV} (hz:∀ q∈owns1 x,∀ z e sh rows,s.ob q = some (.row z e sh rows)→z = true) (h:Rep w g s.ob v x):Rep w g s.ob v (Z5l s.ob x):=by
 cases x <;> simp only [Z5l] <;> first | exact h | exact Z0S (ZcY hob (fun q hq => by cases hq;exact hz _ (by simp [owns1,owns])) h) | skip
 obtain ⟨vs,h1,h2,h3⟩:=h
 refine ⟨vs,h1,by simp [h2],fun k c hc => ?_⟩
 rw [List.getElem?_map,Option.map_eq_some_iff] at hc
 obtain ⟨c0,hc0,rfl⟩:=hc
 exact ZcY hob (fun q hq => by subst hq;exact hz q (by simp only [owns1,List.mem_flatMap];exact ⟨_,List.mem_of_getElem? hc0,by simp [owns]⟩)) (h3 k c0 hc0)
theorem ZdJ {ob:Nat→Option Ob} {l:List Nat} {q:Nat} (hq:q∈l):∀ z e sh rows,updCh (l.flatMap (Z0A ob)) ob q = some (.row z e sh rows)→z = true:=fun z e sh rows h => by
 rw [Z5C,if_pos hq] at h
 split at h
 ·cases h;rfl
 ·rename_i hn;exact absurd h (hn _ _ _ _)
theorem Zdr (hI:Inv T w0 gp obp g w a s) {f:Fn} {first caps:Array Operand} (ho:o.op = .makeFunc f first caps) {v:AV} {ch:List (Nat×Ob)} (h:(opAct (F0 P T) tab s o).sem (F0 P T) (fun v' ch' => v' = v∧ch' = ch)):Good P T w0 gp obp w a s o v ch:=by
 unfold opAct at h
 cases f <;> simp only [ho] at h <;> try exact h.elim
 rename_i f
 split at h
 ·rename_i hc
  obtain ⟨h0,hall⟩:=hc
  obtain ⟨rfl,rfl⟩:=h
  obtain rfl:first = #[]:=Array.eq_empty_of_size_eq_zero h0
  refine ZG hI (v:=.func (.func _) #[] (caps.map a.eval)) ?_ (show Rep1 w g s.ob _ (.clo _ _) from ⟨_,rfl,by simp,fun k c hk => ?_⟩)
  ·unfold execOp
   simp [ho,Instr.makeFunc]
  ·rw [List.getElem?_map,Option.map_eq_some_iff] at hk
   obtain ⟨x,hx,rfl⟩:=hk
   have e1:(caps.map a.eval).getD k undef = a.eval x:=by
    rw [Array.getD_eq_getD_getElem?,Array.getElem?_map]
    simp at hx;simp [hx]
   rw [e1]
   have h1:=hI.eval x
   have h2:=List.all_eq_true.1 hall x (List.mem_of_getElem? hx)
   generalize s.eval x = u at h1 h2
   cases u <;> first | exact h1 | (simp [Za1] at h2)
 ·exact h.elim
theorem good_slice (hT:TabOk P tab) (hI:Inv T w0 gp obp g w a s) {t:TypeId} {x:Operand} {lo hi:Option Operand} (ho:o.op = .slice t x lo hi none) {v:AV} {ch:List (Nat×Ob)} (h:(opAct (F0 P T) tab s o).sem (F0 P T) (fun v' ch' => v' = v∧ch' = ch)):Good P T w0 gp obp w a s o v ch:=by
 unfold opAct at h
 simp only [ho] at h
 have hx:=hI.eval x
 have bnd:∀ (q:Option Operand) (d l:Int),Z4Q s d q = some l→(q = none∧l = d)∨∃ y k,q = some y∧a.eval y = .int k l:=by
  intro q d l hq
  unfold Z4Q at hq
  split at hq
  ·exact .inl ⟨rfl,(Option.some.inj hq).symm⟩
  ·rename_i y
   split at hq
   ·rename_i k l' e
    have:=hI.eval y
    rw [e] at this
    obtain rfl:=Option.some.inj hq
    exact .inr ⟨y,k,rfl,Z3o this⟩
   ·cases hq
 have bounds:∀ (isl:Bool) (n m:Nat) (l r:Int) ,n≤m→((lo = none∧l = 0)∨∃ y k,lo = some y∧a.eval y = .int k l)→((hi = none∧r = n)∨∃ y k,hi = some y∧a.eval y = .int k r)→0≤l→l≤r→r≤m →
   (Instr.sliceBounds isl n m (lo.map a.eval) (hi.map a.eval) none).run P w = .ok (l.toNat,r.toNat,m) w:=by
  intro isl n m l r hnm hl hr h0 h1 h2
  have e1:((r.toNat:Nat):Int) = r:=by omega
  rcases hl with ⟨rfl,rfl⟩ | ⟨y,k,rfl,hy⟩ <;> rcases hr with ⟨rfl,rfl⟩ | ⟨z,k',rfl,hz⟩
  ·simp [Instr.sliceBounds]
  ·simp only [Instr.sliceBounds,Option.map_none,Option.map_some,hz,Sem.run_bind,Sem.run_pure,Result.andThen_ok]
   rw [run_sliceBound w _ _ _ _ (by omega) h2];simp
  ·simp only [Instr.sliceBounds,Option.map_none,Option.map_some,hy,Sem.run_bind,Sem.run_pure,Result.andThen_ok]
   rw [run_sliceBound w _ _ _ _ h0 (by omega)];simp
  ·simp only [Instr.sliceBounds,Option.map_some,hy,hz,Sem.run_bind,Sem.run_pure,Result.andThen_ok]
   rw [run_sliceBound w _ _ _ _ (by omega) h2]
   simp only [Result.andThen_ok]
   rw [run_sliceBound w _ _ _ _ h0 (by omega)];simp
 split at h
 ·rename_i sz by_ sh b htab ex
  rw [ex] at hx
  have hx:=Z6S hx
  have hu:=ZcT (hT _ _ htab) rfl
  split at h
  ·rename_i l r hl hr
   obtain ⟨⟨h0,h1,h2⟩,rfl,rfl⟩:=h
   refine ZG hI (v:=.string (b.extract l.toNat r.toNat)) ?_ (RepC.str _)
   have h2:r≤(b.size:Int):=h2
   unfold execOp
   simp only [ho,hx,Instr.sliceAt,Sem.run_bind,run_underlying hu,Result.andThen_ok,Instr.slice,Option.map_none,Option.isSome_none,Bool.false_eq_true,if_false,Sem.run_pure]
   rw [bounds false b.size b.size l r (Nat.le_refl _) (bnd lo 0 l hl) (bnd hi _ r hr) h0 h1 h2]
   rfl
  ·exact h.elim
 ·rename_i e sz by_ sh htab
  have hu:=Z5s (hT _ _ htab) rfl
  split at h
  ·rename_i shr rows hrow
   split at h
   ·rename_i l r hl hr
    split at h
    ·rename_i te hte
     split at h
     ·rename_i hsz
      obtain ⟨⟨h0,h1,h2⟩,rfl,rfl⟩:=h
      have h2:r≤(rows.length:Int):=h2
      obtain ⟨G',hI'⟩:=hI.freeze (owns (s.eval x))
      have hrow':rowOf (updCh ((owns (s.eval x)).flatMap (Z0A s.ob)) s.ob) (s.eval x) = some (shr,rows):=by
       cases hx':s.eval x with
       | own q =>
        rw [hx'] at hrow
        simp only [rowOf] at hrow ⊢
        rw [Z5C,if_pos (by simp [owns])]
        split at hrow
        ·rename_i z e sh rows hq
         first | (rw [hq];exact hrow) | exact hrow
        ·cases hrow
       | _ => rw [hx'] at hrow;exact hrow
      have hrep:=rowOf_rep (s:=⟨s.sl,updCh ((owns (s.eval x)).flatMap (Z0A s.ob)) s.ob⟩) hI'.obs hrow' (fun q hq => ZdJ (by rw [hq];simp [owns])) (hI'.eval x)
      generalize hv:a.eval x = v at hrep
      cases hrep with
      | sl A c _ _ val b q hc hsh hA hrd hrv =>
       have hlen:((rows.drop l.toNat).take (r.toNat - l.toNat)).length = r.toNat - l.toNat:=by
        rw [List.length_take,List.length_drop];omega
       have hrun:(execOp a.eval o).run P w = .ok (.value (.slice (if c = l.toNat then A else A.map (·.add (l.toNat * shr.length))) (r.toNat - l.toNat) (c - l.toNat))) w:=by
        unfold execOp
        simp only [ho,hv,Instr.sliceAt,Sem.run_bind,run_underlying hu,Result.andThen_ok,Instr.slice,Option.map_none]
        rw [bounds true rows.length c l r hc (bnd lo 0 l hl) (bnd hi _ r hr) h0 h1 (by omega)]
        simp only [Result.andThen_ok,Z5R (hT _ _ hte),hsz,Sem.run_pure]
       refine fun Q => ZG hI' hrun ?_ Q
       show RepC w G' _ (.sl shr ((rows.drop l.toNat).take (r.toNat - l.toNat)))
       have get:∀ j row,((rows.drop l.toNat).take (r.toNat - l.toNat))[j]? = some row→rows[l.toNat + j]? = some row:=by
        intro j row hj
        rw [List.getElem?_take] at hj
        split at hj
        ·rwa [List.getElem?_drop] at hj
        ·cases hj
       suffices key:RepC w G' (.slice (if c = l.toNat then A else A.map (·.add (l.toNat * shr.length))) ((rows.drop l.toNat).take (r.toNat - l.toNat)).length (c - l.toNat)) (.sl shr ((rows.drop l.toNat).take (r.toNat - l.toNat))) by
        rw [hlen] at key;exact key
       refine RepC.sl _ (c - l.toNat) _ _ (fun j k => val (l.toNat + j) k) b (q + l.toNat * shr.length) (by rw [hlen];omega) (fun row hrow' => hsh row (List.mem_of_mem_drop (List.mem_of_mem_take hrow'))) (fun hne => ?_) (fun j row k cv hj hk => ?_) (fun j row k cv hj hk => hrv _ _ k cv (get j row hj) hk)
       ·have hpos:0 < r.toNat - l.toNat:=by rw [←hlen];exact List.length_pos_iff.2 hne
        have hcl:¬ c = l.toNat:=by omega
        have hne2:rows≠[]:=by
         intro e
         rw [e,List.length_nil] at h2
         omega
        have hA:=hA hne2
        rw [if_neg hcl,hA,Option.map_some,Addr.add_mid]
       ·have:=hrd _ _ k cv (get j row hj) hk
        rw [Nat.add_mul] at this
        rw [show q + l.toNat * shr.length + (j * shr.length + k) = q + (l.toNat * shr.length + j * shr.length + k) by omega]
        exact this
     ·exact h.elim
    ·exact h.elim
   ·exact h.elim
  ·exact h.elim
 ·exact h.elim
end
end Go.Ev
namespace Go.Ev
section
variable {P:Program} {T:TBs} {tab:Tr} {w0:World} {gp:Gh} {obp:Nat→Option Ob} {g g':Gh} {w w':World} {a:Act} {s:St} {o:Oper}
theorem run_bs (t e:TypeId) (len:Nat) (parts:Array (Nat×Value)) (cells:Array Value) (ie:TypeInfo) (z:Value)
  (hu:P.underlying t = some (.slice e)) (hie:P.info? e = some ie) (hz:ie.zero = some z) (hsmall:¬ len * ie.size > 2 ^ 24)
  (h:Instr.fill (fun i => some (i * ie.size,ie.size)) ((Array.range (len * ie.size)).map (z.cells[· % z.cells.size]!)) parts.toList = some cells) :
  (Instr.buildSlice t len parts).run P w = .ok (.slice (some ⟨w.heap.size,0,none⟩) len len) (w.alloc (.cells cells e)):=by
 by_cases hpos:len * ie.size = 0
 ·have h0:(0:Nat)≤2 ^ 24:=Nat.zero_le _
  have e0:∀ f:Nat→Value,(Array.range 0).map f = #[]:=fun f => by simp
  rw [hpos,e0] at h
  simp [Instr.buildSlice,run_underlying hu,sizeOf,typeInfo,zeroValue,hie,hz,hpos]
  rw [e0,h]
  simp [newRow]
 ·exact run_buildSlice w t e len parts cells ie z hu hie hz hsmall hpos h
theorem Zbx (hT:TabOk P tab) (hI:Inv T w0 gp obp g w a s) {t:TypeId} {len:Nat} {parts:Array (Nat×Operand)} (ho:o.op = .buildSlice t len parts) {v:AV} {ch:List (Nat×Ob)} (h:(opAct (F0 P T) tab s o).sem (F0 P T) (fun v' ch' => v' = v∧ch' = ch)):Good P T w0 gp obp w a s o v ch:=by
 unfold opAct at h
 simp only [ho] at h
 generalize hfz:(parts.toList.flatMap fun p => owns1 (s.eval p.2)) = fz at h
 unfold bsAct at h
 split at h
 ·rename_i d e sz0 by0 sh0 hdst htab
  split at h
  ·rename_i te hte
   split at h
   ·exact h.elim
   ·rename_i hc
    simp only [Bool.or_eq_true,Option.isSome_iff_ne_none,ne_eq,decide_eq_true_eq,not_or,Decidable.not_not] at hc
    obtain ⟨⟨⟨hd,hsz0⟩,hshl⟩,hsmall⟩:=hc
    obtain ⟨Gf,hIf⟩:=hI.freeze fz
    have hdf:(⟨s.sl,updCh (fz.flatMap (Z0A s.ob)) s.ob⟩:St).ob d = none:=by
     show updCh _ _ d = none
     rw [Z5C,hd];split <;> rfl
    have hev:∀ x:Operand,(⟨s.sl,updCh (fz.flatMap (Z0A s.ob)) s.ob⟩:St).eval x = s.eval x:=fun x => by cases x <;> rfl
    have hfzt:∀ p∈parts.toList,∀ q∈owns1 (s.eval p.2),∀ z e sh rows,updCh (fz.flatMap (Z0A s.ob)) s.ob q = some (.row z e sh rows)→z = true:=fun p hp q hq => ZdJ (by rw [←hfz,List.mem_flatMap];exact ⟨p,hp,hq⟩)
    have hplain:∀ p∈parts.toList,Rep w ⟨g.blk,g.top,Gf⟩ (updCh (fz.flatMap (Z0A s.ob)) s.ob) (a.eval p.2) (Z5l (updCh (fz.flatMap (Z0A s.ob)) s.ob) (s.eval p.2)):=fun p hp => plainV_rep (s:=⟨s.sl,updCh (fz.flatMap (Z0A s.ob)) s.ob⟩) hIf.obs (hfzt p hp) (by rw [←hev];exact hIf.eval p.2)
    clear hfzt
    generalize hs':(⟨s.sl,updCh (fz.flatMap (Z0A s.ob)) s.ob⟩:St) = s' at hIf hdf hev
    have hob':updCh (fz.flatMap (Z0A s.ob)) s.ob = s'.ob:=by rw [←hs']
    rw [hob'] at h hplain
    generalize hg':(⟨g.blk,g.top,Gf⟩:Gh) = gf at hIf hplain
    split at h
    ·rename_i cs hf
     split at h
     ·rename_i l hl
      split at h
      ·rename_i hall
       obtain ⟨rfl,rfl⟩:=h
       have hti:=hT _ _ hte
       have hu:=Z5s (hT _ _ htab) rfl
       obtain ⟨_,i,z,hi,hisz,_,hz,hzc,hzs⟩:=ZbO hti (Z8r hti hshl)
       have hzl:z.cells.size = te.sh.length:=by rw [hzs,hshl]
       have hcr:Z8s w gf s' ((Array.range (len * i.size)).map (z.cells[· % z.cells.size]!)) ((List.range len).flatMap fun _ => te.sh.map zeroA):=by
        refine ⟨by simp only [Array.size_map,Array.size_range,Z1t,List.length_map];rw [hisz,hshl],fun k c hk => ?_⟩
        obtain ⟨h1,h2⟩:=flat_get _ _ _ _ hk
        rw [List.length_map] at h1 h2
        obtain ⟨h3,q,hq,rfl⟩:=Zc6 (w:=w) (g:=gf) (ob:=s'.ob) hzc h1
        have e1:((Array.range (len * i.size)).map (z.cells[· % z.cells.size]!)).getD k undef = z.cells.getD (k % te.sh.length) undef:=by
         have hk':k < len * i.size:=by rw [hisz,←hshl];exact h2
         have hm:k % te.sh.length < z.cells.size:=by rw [hzl];exact Nat.mod_lt _ (by omega)
         simp only [Array.getD_eq_getD_getElem?,Array.getElem?_map,Array.getElem?_range,hk',if_true,Option.map_some,Option.getD_some,hzl]
         rw [←hzl] at hm ⊢
         rw [Array.getElem?_eq_getElem (by rw [hzl] at hm ⊢;exact hm)]
         simp [hm]
        rw [e1]
        exact ⟨h3,ti_like hti (Z8r hti hshl) q hq⟩
       obtain ⟨us,hfill,hus⟩:=Ze0 hIf (fun x => Z5l s'.ob (s.eval x)) (fun j => some (j * i.size,i.size)) _ (fun j off u ti hp hg => by
        rw [List.getElem?_map,Option.map_eq_some_iff] at hp
        obtain ⟨j',hj',he⟩:=hp
        simp only [Prod.mk.injEq] at he
        obtain ⟨rfl,rfl⟩:=he
        obtain rfl:te = ti:=Option.some.inj (hte.symm.trans hg)
        have:j = j':=by
         rw [List.getElem?_eq_some_iff] at hj'
         obtain ⟨h1,h2⟩:=hj'
         simpa using h2
        rw [this,hisz]) parts.toList _ _ cs hplain hcr hf
       obtain ⟨hll,hlr⟩:=Z8S (fun k => us.getD k undef) hl (fun k c hk => (hus.2 k c hk).1)
       have huss:us.size = len * te.sh.length:=by
        have:cs.length = ((List.range len).flatMap fun _ => te.sh.map zeroA).length:=by
         have key:∀ (ps:List (Nat×AV)) (cs0 res:List AV),fillA ((List.range len).map fun i => (i * te.sz,e)) tab s'.ob cs0 ps = some res→res.length = cs0.length:=by
          intro ps
          induction ps with
          | nil => intro cs0 res h;simp only [fillA,Option.some.injEq] at h;rw [h]
          | cons p ps ih =>
           intro cs0 res h
           obtain ⟨i,x⟩:=p
           unfold fillA at h
           split at h
           ·split at h
            ·split at h
             ·rw [ih _ _ h,Z5Z]
             ·cases h
            ·cases h
           ·cases h
         exact key _ _ _ hf
        rw [hus.1,this,Z1t,List.length_map]
       have hrun:=run_bs (P:=P) (w:=w) t e len (parts.map fun (i,x) => (i,a.eval x)) us i z hu hi hz (by rw [hisz];omega) (by simpa using hfill)
       have hbase:w0.heap.size≤w.heap.size:=hIf.grow.size
       have hrowg:∀ j row k cv,((List.range len).map fun i => (l.drop (i * te.sz)).take te.sz)[j]? = some row→row[k]? = some cv→l[j * te.sh.length + k]? = some cv:=by
        intro j row k cv hj hk
        rw [List.getElem?_map,Option.map_eq_some_iff] at hj
        obtain ⟨j',hj',rfl⟩:=hj
        have:j = j':=by
         rw [List.getElem?_eq_some_iff] at hj'
         obtain ⟨h1,h2⟩:=hj'
         simpa using h2
        subst this
        rw [List.getElem?_take] at hk
        split at hk
        ·rw [List.getElem?_drop] at hk
         rw [hshl];exact hk
        ·cases hk
       refine fun Q => Z51 (v:=.slice (some ⟨w.heap.size,0,none⟩) len len) (w':=w.alloc (.cells us e)) (by unfold execOp;simp only [ho,Sem.run_bind,hrun,Result.andThen_ok,Sem.run_pure]) ?_
       have hI':=hIf.fresh_ob (d:=d) hdf (x:=.row false e te.sh ((List.range len).map fun i => (l.drop (i * te.sz)).take te.sz)) (v:=.slice (some ⟨w.heap.size,0,none⟩) len len) (av:=.own d) (dst:=some d) (.cells us e) (.slice (some ⟨w.heap.size,0,none⟩) len len) gf.G
        (fun _ _ => rfl) (fun b hb => hIf.gz b (by omega)) ?_ (.inl (by simp [obBlk,vset,Value.ownBlock])) ?_
       ·refine ⟨_,by rw [hdst];subst hs';exact hI'⟩
       ·have hext:Ext w gf.G (w.alloc (.cells us e)) gf.G:=ZbP hIf.gz _
        refine ⟨us.toList,?_,fun row hrow => ?_,fun b hb => ?_,fun j row k cv hj hk => ?_⟩
        ·refine ⟨by simp [huss],.inr ⟨w.heap.size,len,us,by simp [vset],Nat.zero_le _,heap_alloc_new w _,by simp,?_,huss,?_⟩⟩
         ·have:len * 1≤len * te.sz:=Nat.mul_le_mul_left _ (by omega)
          unfold maxLen;omega
         ·rw [List.length_map,List.length_range,←huss]
          rw [List.take_of_length_le (by simp)]
        ·have:=List.all_eq_true.1 hall row hrow
         exact Z9u this
        ·simp only [vset,if_true,Value.ownBlock,Option.some.injEq] at hb
         subst hb
         exact hIf.gz _ (Nat.le_refl _)
        ·have hg:=hrowg j row k cv hj hk
         refine ⟨us.getD (j * te.sh.length + k) undef,?_,(hlr _ _ hg).ext hext⟩
         have hlt:j * te.sh.length + k < us.size:=by
          have:=(List.getElem?_eq_some_iff.1 hg).1
          rw [hll] at this;rw [hus.1];exact this
         simp [hlt]
       ·exact ⟨⟨_,by rw [Z1U,if_pos rfl]⟩,fun _ _ _ _ _ => by simp [vset]⟩
      ·exact h.elim
     ·exact h.elim
    ·exact h.elim
  ·exact h.elim
 ·exact h.elim
theorem zeroC_rep {G:Nat→Nat} {q:Sh} (h:nofn q = true):RepC w G (zeroV q) (zeroC q)∧(zeroC q).sh = q:=by
 cases q with
 | int k => exact ⟨.int _ _,rfl⟩
 | bool => exact ⟨.bool _,rfl⟩
 | str => exact ⟨.str _,rfl⟩
 | fn => cases h
 | sl s => exact ⟨Z63 s,rfl⟩
theorem Zcv (hT:TabOk P tab) (hI:Inv T w0 gp obp g w a s) {t:TypeId} {x y:Operand} (ho:o.op = .makeSlice t x y) {v:AV} {ch:List (Nat×Ob)} (h:(opAct (F0 P T) tab s o).sem (F0 P T) (fun v' ch' => v' = v∧ch' = ch)):Good P T w0 gp obp w a s o v ch:=by
 unfold opAct at h
 simp only [ho] at h
 have hx:=hI.eval x
 have hy:=hI.eval y
 split at h
 ·rename_i d e sz0 by0 sh0 n m hdst htab ex ey
  rw [ex] at hx;rw [ey] at hy
  have hx:=Z3o hx
  have hy:=Z3o hy
  split at h
  ·rename_i te hte
   split at h
   ·exact h.elim
   ·rename_i hc
    simp only [Bool.or_eq_true,Option.isSome_iff_ne_none,ne_eq,decide_eq_true_eq,not_or,Decidable.not_not] at hc
    obtain ⟨⟨⟨hd,hsz0⟩,hshl⟩,hnf⟩:=hc
    have hlike:∀ q∈te.sh,nofn q = true:=by simpa using hnf
    obtain ⟨h0,rfl,⟨h1,h2⟩,rfl,rfl⟩:=h
    have h1:n * (te.bytes:Int)≤281474976710656:=h1
    have h2:n≤4611686018427387904:=h2
    have hti:=hT _ _ hte
    have hu:=Z5s (hT _ _ htab) rfl
    obtain ⟨_,i,z,hi,hisz,hiby,hz,hzc,hzs⟩:=ZbO hti (Z8r hti hshl)
    obtain ⟨k,rfl⟩:∃ k:Nat,n = k:=⟨n.toNat,by omega⟩
    have hr:=run_make (P:=P) w t e i z hu hi hz .i64 .i64 k k (by omega) (Int.le_refl _) (by rw [hiby,Int.mul_comm];omega) (by omega)
    simp only [Int.toNat_natCast] at hr
    have hown:=World.ownsRow_lit (base:=0) (e:=e) (size:=i.size) w (madeCells z.cells (k * i.size)) k (Nat.zero_le _) (by unfold maxLen;omega) (size_madeCells _ _)
    have hzl:z.cells.size = te.sh.length:=by rw [hzs,hshl]
    have cell:∀ j c q,te.sh[c]? = some q→j < k→(madeCells z.cells (k * i.size)).toList[j * te.sh.length + c]? = some (zeroV q):=fun j c q hq hj => by
     have hcl:=(List.getElem?_eq_some_iff.1 hq).1
     have:(j + 1) * te.sh.length≤k * te.sh.length:=Nat.mul_le_mul_right _ hj
     rw [Nat.add_mul] at this
     have hlt:j * te.sh.length + c < k * i.size:=by rw [hisz,←hshl];omega
     have hm:(j * te.sh.length + c) % z.cells.size = c:=by
      rw [hzl,Nat.add_comm,Nat.add_mul_mod_self_right,Nat.mod_eq_of_lt hcl]
     have hzq:z.cells[c]! = zeroV q:=by
      have h1:z.cells.toList[c]? = some (zeroV q):=by rw [hzc,List.getElem?_map,hq];rfl
      have h2:z.cells[c]? = some (zeroV q):=by simpa using h1
      rw [getElem!_def,h2]
     simp only [madeCells,Array.getElem?_toList,Array.getElem?_map,Array.getElem?_range,hlt,if_true,Option.map_some,hm,hzq]
    refine fun Q => Z51 (v:=.slice (some ⟨w.heap.size,0,none⟩) k k) (w':=w.alloc (.cells (madeCells z.cells (k * i.size)) e)) (by unfold execOp;simp only [ho,hx,hy,Sem.run_bind,hr,Result.andThen_ok,Sem.run_pure]) ?_
    have hI':=hI.fresh_ob (d:=d) hd (x:=.row false e te.sh (mkR k te.sh)) (v:=.slice (some ⟨w.heap.size,0,none⟩) k k) (av:=.own d) (dst:=some d) (.cells (madeCells z.cells (k * i.size)) e) (.slice (some ⟨w.heap.size,0,none⟩) k k) g.G
     (fun _ _ => rfl) (fun b hb => hI.gz b (by omega)) ?_ (.inl (by simp [obBlk,vset,Value.ownBlock])) ?_
    ·refine ⟨_,by rw [hdst];exact hI'⟩
    ·have hlen:(mkR k te.sh).length = k:=by simp [mkR]
     refine ⟨(madeCells z.cells (k * i.size)).toList,?_,fun row hrow => ?_,fun b hb => ?_,fun j row c cv hj hk => ?_⟩
     ·rw [hlen,hshl,←hisz];simpa [vset] using hown
     ·simp only [mkR,Int.toNat_natCast,List.mem_replicate] at hrow
      rw [hrow.2,List.map_map]
      conv => rhs;rw [←List.map_id te.sh]
      exact List.map_congr_left (fun q hq => (zeroC_rep (w:=w) (G:=g.G) (hlike q hq)).2)
     ·simp only [vset,if_true,Value.ownBlock,Option.some.injEq] at hb
      subst hb
      exact hI.gz _ (Nat.le_refl _)
     ·simp only [mkR,Int.toNat_natCast,List.getElem?_replicate] at hj
      split at hj
      ·rename_i hjk
       obtain rfl:=Option.some.inj hj
       rw [List.getElem?_map,Option.map_eq_some_iff] at hk
       obtain ⟨q,hq,rfl⟩:=hk
       exact ⟨_,cell j c q hq hjk,(zeroC_rep (hlike q (List.mem_of_getElem? hq))).1⟩
      ·cases hj
    ·exact ⟨⟨_,by rw [Z1U,if_pos rfl]⟩,fun _ _ _ _ _ => by simp [vset]⟩
  ·exact h.elim
 ·exact h.elim
end
end Go.Ev
namespace Go.Ev
section
variable {P:Program} {T:TBs} {tab:Tr} {w0:World} {gp:Gh} {obp:Nat→Option Ob} {g g':Gh} {w w':World} {a:Act} {s:St} {o:Oper}
theorem ZaF {base:Nat} {e:TypeId} {size n:Nat} {v:Value} {xs:List Value} (h:w.ownsRow base e size v n xs) {b:Nat} (hb:v.ownBlock = some b):base≤b∧b < w.heap.size∧∃ cur,w.heap[b]? = some (.cells cur e (0,0))∧cur.toList.take (n * size) = xs∧n * size≤cur.size:=by
 rcases h.2 with ⟨h1,_⟩ | ⟨q,cap,cur,h1,h2,h3,h4,_,h6,h7⟩
 ·rw [h1] at hb;simp [Value.ownBlock] at hb
 ·rw [h1] at hb
  simp only [Value.ownBlock,Option.some.injEq] at hb
  subst hb
  exact ⟨h2,(Array.getElem?_eq_some_iff.1 h3).1,cur,h3,h7,by rw [h6];exact Nat.mul_le_mul_right _ h4⟩
theorem Zbt {base:Nat} (t ty e:TypeId) (i:TypeInfo) (size:Nat) (ht:P.underlying t = some (.slice e)) (hi:P.info? e = some i) {v:Value} {n:Nat} {xs:List Value} (hown:w.ownsRow base e size v n xs) (A:Option Addr) (c:Nat) :
  (Builtin.append_ #[t,t] ty #[v,.slice A 0 c]).run P w = .ok v w:=by
 rcases hown.2 with ⟨rfl,rfl⟩ | ⟨q,cap,cur,rfl,_,_,hnc,_⟩
 ·cases A <;> simp [Builtin.append_,run_underlying ht,sizeOf,typeInfo,hi,Builtin.lenOf,Builtin.firstCells,loadCells,loadCellsFrom]
 ·cases A <;> simp [Builtin.append_,run_underlying ht,sizeOf,typeInfo,hi,Builtin.lenOf,Builtin.firstCells,hnc,storeCells,loadCells,loadCellsFrom]
theorem app_run {base:Nat} (t ty e:TypeId) (i:TypeInfo) (z:Value) (size bytes:Nat) (ht:P.underlying t = some (.slice e)) (hi:P.info? e = some i) (hz:i.zero = some z)
  (hsize:i.size = size) (hby:i.bytes = bytes) (hzs:z.cells.size = size) (hsz:0 < size) (v:Value) (n:Nat) (xs:List Value) (hown:w.ownsRow base e size v n xs)
  (ad:Addr) (m c:Nat) (news:List Value) (hl:news.length = m * size) (hnews:∀ j u,news[j]? = some u→w.cell? (ad.add j) = some u) (h1:∀ u∈news,u.oneCell' = true)
  (h63:n + m≤maxLen) (hbytes:(n + m) * bytes≤140737488355328) (hbase:base≤w.heap.size) :
  ∃ v' w',(Builtin.append_ #[t,t] ty #[v,.slice (some ad) m c]).run P w = .ok v' w'∧w'.ownsRow base e size v' (n + m) (xs++news) ∧
   ((v'.ownBlock = v.ownBlock∧w.grownBy w' v.ownBlock)∨((∀ b,v'.ownBlock = some b→w.heap.size≤b)∧w.grownBy w' none)):=by
 rcases hown.2 with ⟨h2,h3⟩ | ⟨q,cap,cur,h2,hbg,hg,hnc,hcm,hcs,htake⟩
 ·obtain ⟨v',w',hr,ho,hgr,-,hat⟩:=run_append_own_at (P:=P) (w:=w) base t ty e i z size bytes ht hi hz hsize hby hzs hsz v n xs hown ad m c news hl hnews h1 h63 hbytes hbase
  refine ⟨v',w',hr,ho,.inr ⟨fun b hb => ?_,?_⟩⟩
  ·rcases hat with hat | hat
   ·rw [hat,h2] at hb;simp [Value.ownBlock] at hb
   ·rw [hat] at hb;simp only [Option.some.injEq] at hb;omega
  ·rw [h2] at hgr;exact hgr
 ·by_cases hc:n + m≤cap
  ·rw [h2] at hown
   obtain ⟨w',hr,ho,hgr⟩:=run_append_own_spare (P:=P) (w:=w) base t ty e i size ht hi hsize q n cap xs hown ad m c news hl hnews h1 hc
   rw [h2]
   exact ⟨_,w',hr,ho,.inl ⟨rfl,hgr⟩⟩
  ·rw [h2] at hown ⊢
   have holds:∀ j u,xs[j]? = some u→w.cell? ((⟨q,0,none⟩:Addr).add j) = some u:=fun j u hu => by
    rw [Addr.add_mid,Nat.zero_add]
    rw [←htake,List.getElem?_take] at hu
    split at hu
    ·simp only [World.cell?,hg];simpa using hu
    ·cases hu
   obtain ⟨v',w',hr,ho,hgr⟩:=run_append_arg_grows (P:=P) (w:=w) t ty e i z size bytes ht hi hz hsize hby hzs hsz ⟨q,0,none⟩ n cap xs hown.1 holds ad m c news hl hnews (by omega) h63 hbytes
   refine ⟨v',w',hr,?_,.inr ⟨fun b hb => (ZaF ho hb).1,hgr⟩⟩
   refine ⟨ho.1,?_⟩
   rcases ho.2 with h | ⟨q',cap',cur',h5,h6,h7⟩
   ·exact .inl h
   ·exact .inr ⟨q',cap',cur',h5,Nat.le_trans hbase h6,h7⟩
theorem app_inv (hI:Inv T w0 gp obp g w a s) {d e:Nat} (hd:s.ob d = none) {sh:List Sh} {xs ys:List (List CV)} {ch:List (Nat×Ob)} {v v':Value} {cs news:List Value}
  (z:Bool) (hown:w.ownsRow 0 e sh.length v xs.length cs) (hown':w'.ownsRow 0 e sh.length v' (xs.length + ys.length) (cs++news))
  (hcase:(v'.ownBlock = v.ownBlock∧w.grownBy w' v.ownBlock)∨((∀ b,v'.ownBlock = some b→w.heap.size≤b)∧w.grownBy w' none))
  (hGv:∀ b,v.ownBlock = some b→g.G b = if z then xs.length * sh.length else 0) (hfv:∀ b,v.ownBlock = some b→Bk gp obp b∨w0.heap.size≤b)
  (hshx:∀ row∈xs,row.map CV.sh = sh) (hshy:∀ row∈ys,row.map CV.sh = sh)
  (hcx:∀ j row k cv,xs[j]? = some row→row[k]? = some cv→∃ u,cs[j * sh.length + k]? = some u∧RepC w g.G u cv)
  (hcy:∀ j row k cv,ys[j]? = some row→row[k]? = some cv→∃ u,news[j * sh.length + k]? = some u∧RepC w g.G u cv)
  (hd':updCh ch s.ob d = some (.row z e sh (xs++ys))) (hch:∀ q,q≠d→updCh ch s.ob q = s.ob q∨updCh ch s.ob q = some .gone)
  (hch':∀ q x b,q≠d→s.ob q = some x→obBlk g q x = some b→v.ownBlock = some b→updCh ch s.ob q = some .gone) (hchr:∀ q,q≠d→updCh ch s.ob q = some .gone→∀ cs,s.ob q≠some (.box cs)) :
  ∃ g',Inv T w0 gp obp g' w' (a.put (some d) v') (s.put (some d) (.own d) ch):=by
 have hlw:w.heap.size≤w'.heap.size:=by rcases hcase with h | h <;> exact h.2.size
 let G':Nat→Nat:=fun b => if v'.ownBlock = some b then (if z then (xs.length + ys.length) * sh.length else 0) else g.G b
 have hwsz:=hI.grow.size
 have hb':∀ b,v'.ownBlock = some b→(Bk gp obp b∨w0.heap.size≤b)∧b < w'.heap.size∧(v.ownBlock = some b∨w.heap.size≤b):=fun b hb => by
  have:=ZaF hown' hb
  have h3:v.ownBlock = some b∨w.heap.size≤b:=by
   rcases hcase with h | h
   ·left;rw [←h.1];exact hb
   ·right;exact h.1 b hb
  exact ⟨by rcases h3 with h | h;exact hfv b h;right;omega,this.2.1,h3⟩
 have hblk:∀ b,b < w.heap.size→v.ownBlock≠some b→w'.heap[b]? = w.heap[b]?∧G' b = g.G b:=fun b hb hne => by
  refine ⟨?_,?_⟩
  ·rcases hcase with h | h
   ·exact h.2.block b hb (fun e => hne e.symm)
   ·exact h.2.block b hb (by simp)
  ·show (if v'.ownBlock = some b then _ else _) = _
   rw [if_neg (fun e => by rcases (hb' b e).2.2 with h | h;exact hne h;omega)]
 have he:Ext w g.G w' G':=fun b p hp => by
  have hlt:b < w.heap.size:=by
   rcases Nat.lt_or_ge b w.heap.size with h | h
   ·exact h
   ·rw [hI.gz b h] at hp;omega
  by_cases hv:v.ownBlock = some b
  ·have hGb:=hGv b hv
   have hz:z = true:=by cases z with
    | true => rfl
    | false => rw [hGb] at hp;simp at hp
   subst hz
   rw [if_pos rfl] at hGb
   obtain ⟨_,_,cur,hc1,hc2,_⟩:=ZaF hown hv
   rcases hcase with h | h
   ·have hv':v'.ownBlock = some b:=by rw [h.1];exact hv
    obtain ⟨_,_,cur',hc1',hc2',_⟩:=ZaF hown' hv'
    refine ⟨by show p < (if v'.ownBlock = some b then _ else _);rw [if_pos hv',if_pos rfl,Nat.add_mul];omega,?_⟩
    have e1:cur[p]? = cs[p]?:=by rw [←hc2,List.getElem?_take,if_pos (by omega)];simp
    have e2:cur'[p]? = (cs++news)[p]?:=by rw [←hc2',List.getElem?_take,if_pos (by rw [Nat.add_mul];omega)];simp
    have e3:(cs++news)[p]? = cs[p]?:=by rw [List.getElem?_append_left (by rw [hown.1];omega)]
    simp only [World.cell?,hc1,hc1']
    simp [e1,e2,e3]
   ·have hne:v'.ownBlock≠some b:=fun e => by have:=h.1 b e;omega
    refine ⟨by show p < (if v'.ownBlock = some b then _ else _);rw [if_neg hne];exact hp,?_⟩
    simp only [World.cell?,h.2.block b hlt (by simp)]
  ·obtain ⟨h1,h2⟩:=hblk b hlt hv
   exact ⟨by rw [h2];exact hp,by simp only [World.cell?,h1]⟩
 let g':Gh:=⟨g.blk,vset g.top d v',G'⟩
 have hne:∀ q y,s.ob q = some y→q≠d:=fun q y hy e => by rw [e,hd] at hy;cases hy
 have other:∀ q y,updCh ch s.ob q = some y→q≠d→y = .gone∨(s.ob q = some y∧∀ b,obBlk g q y = some b→v.ownBlock≠some b):=fun q y hy hq => by
  rcases hch q hq with h | h
  ·rw [h] at hy
   by_cases hn:∃ b,obBlk g q y = some b∧v.ownBlock = some b
   ·obtain ⟨b,hb,hv⟩:=hn
    have:=hch' q y b hq hy hb hv
    rw [h,hy] at this
    left;exact Option.some.inj this
   ·exact .inr ⟨hy,fun b hb hv => hn ⟨b,hb,hv⟩⟩
  ·rw [h] at hy;left;exact (Option.some.inj hy).symm
 have hk:Keep g s.ob g' (updCh ch s.ob):=fun q y hy => by
  have hq:=hne q y hy
  rcases hch q hq with h | h
  ·exact Keep.one (by rw [h];exact hy) rfl (by simp [g',vset,hq])
  ·exact ⟨.gone,h,(fun cs hc => by cases hc),(fun _ _ _ _ hc => by cases hc),fun cs hc => absurd (hc ▸ hy) (hchr q hq h cs)⟩
 have hbeq:∀ q y,q≠d→obBlk g' q y = obBlk g q y:=fun q y hq => by cases y <;> simp [obBlk,g',vset,hq]
 have hdb:obBlk g' d (.row z e sh (xs++ys)) = v'.ownBlock:=by simp [obBlk,g',vset]
 refine ⟨g',hI.change he hk ?_ (fun q y hy => ?_) (fun q q' y y' b h1 h2 h3 h4 => ?_) (fun q y b h1 h2 => ?_) ⟨?_,?_,?_,?_,?_⟩ (fun b hb hn => ?_) (fun b hb => ?_)⟩
 ·exact ⟨⟨_,hd'⟩,fun _ _ _ _ _ => by simp [g',vset]⟩
 ·by_cases hq:q = d
  ·subst hq
   rw [hd'] at hy
   obtain rfl:=Option.some.inj hy
   refine ⟨cs++news,?_,fun row hr => ?_,fun b hb => ?_,fun j row k cv hj hk' => ?_⟩
   ·simp only [g',vset,if_true,List.length_append];exact hown'
   ·rcases List.mem_append.1 hr with h | h
    ·exact hshx row h
    ·exact hshy row h
   ·simp only [g',vset,if_true] at hb
    show (if v'.ownBlock = some b then _ else _) = _
    rw [if_pos hb,List.length_append]
   ·rw [List.getElem?_append] at hj
    split at hj
    ·rename_i hlt
     obtain ⟨u,hu,hr⟩:=hcx j row k cv hj hk'
     have:=(List.getElem?_eq_some_iff.1 hu).1
     exact ⟨u,by rw [List.getElem?_append_left this];exact hu,hr.ext he⟩
    ·rename_i hge
     obtain ⟨u,hu,hr⟩:=hcy _ row k cv hj hk'
     refine ⟨u,?_,hr.ext he⟩
     have:j * sh.length + k = cs.length + ((j - xs.length) * sh.length + k):=by
      rw [hown.1]
      obtain ⟨m,hm⟩:∃ m,j = xs.length + m:=⟨j - xs.length,by omega⟩
      subst hm
      rw [show xs.length + m - xs.length = m by omega,Nat.add_mul];omega
     rw [this,List.getElem?_append_right (Nat.le_add_right _ _),Nat.add_sub_cancel_left];exact hu
  ·rcases other q y hy hq with rfl | ⟨h1,h2⟩
   ·trivial
   ·exact (hI.obs q y h1).keep he hk (fun b hb => hblk b (hI.obs_lt h1 hb) (h2 b hb)) rfl (by simp [g',vset,hq])
 ·by_cases hq:q = d <;> by_cases hq':q' = d
  ·rw [hq,hq']
  ·exfalso
   subst hq
   rw [hd'] at h1;obtain rfl:=Option.some.inj h1
   rw [hdb] at h3
   rw [hbeq q' y' hq'] at h4
   rcases other q' y' h2 hq' with rfl | ⟨h5,h6⟩
   ·simp [obBlk] at h4
   ·rcases (hb' b h3).2.2 with h | h
    ·exact h6 b h4 h
    ·have:=hI.obs_lt h5 h4;omega
  ·exfalso
   subst hq'
   rw [hd'] at h2;obtain rfl:=Option.some.inj h2
   rw [hdb] at h4
   rw [hbeq q y hq] at h3
   rcases other q y h1 hq with rfl | ⟨h5,h6⟩
   ·simp [obBlk] at h3
   ·rcases (hb' b h4).2.2 with h | h
    ·exact h6 b h3 h
    ·have:=hI.obs_lt h5 h3;omega
  ·rw [hbeq q y hq] at h3;rw [hbeq q' y' hq'] at h4
   rcases other q y h1 hq with rfl | ⟨h5,_⟩
   ·simp [obBlk] at h3
   ·rcases other q' y' h2 hq' with rfl | ⟨h7,_⟩
    ·simp [obBlk] at h4
    ·exact hI.inj q q' y y' b h5 h7 h3 h4
 ·by_cases hq:q = d
  ·subst hq
   rw [hd'] at h1;obtain rfl:=Option.some.inj h1
   rw [hdb] at h2
   exact (hb' b h2).1
  ·rw [hbeq q y hq] at h2
   rcases other q y h1 hq with rfl | ⟨h5,_⟩
   ·simp [obBlk] at h2
   ·exact hI.fresh q y b h5 h2
 ·rcases hcase with h | h <;> exact h.2.os.trans hI.grow.os
 ·rcases hcase with h | h <;> exact h.2.tape.trans hI.grow.tape
 ·rcases hcase with h | h <;> exact h.2.output.trans hI.grow.output
 ·have:=hI.grow.size;omega
 ·intro k hk1 hk2
  have hkw:k < w.heap.size:=by have:=hI.grow.size;omega
  have hnv:v.ownBlock≠some k:=fun e => by rcases hfv k e with h | h;exact hk2 h;omega
  rw [(hblk k hkw hnv).1];exact hI.grow.block k hk1 hk2
 ·show (if v'.ownBlock = some b then _ else _) = _
  rw [if_neg (fun e => by rcases (hb' b e).1 with h | h;exact hn h;omega)]
 ·show (if v'.ownBlock = some b then _ else _) = _
  rw [if_neg (fun e => by have:=(hb' b e).2.1;omega)]
  exact hI.gz b (by omega)
theorem flat_news {G:Nat→Nat} {sh:List Sh} {rows:List (List CV)} {v:Value} (h:RowIs w G v sh rows) (hne:rows≠[]) (hs:0 < sh.length):∃ (ad:Addr) (c:Nat) (news:List Value),v = .slice (some ad) rows.length c∧news.length = rows.length * sh.length∧(∀ j u,news[j]? = some u→w.cell? (ad.add j) = some u)∧(∀ u∈news,u.oneCell' = true) ∧
  (∀ row∈rows,row.map CV.sh = sh)∧∀ j row k cv,rows[j]? = some row→row[k]? = some cv→∃ u,news[j * sh.length + k]? = some u∧RepC w G u cv:=by
 obtain ⟨A,c,b,q,val,rfl,hc,hsh,hA,hr'⟩:=h
 have hr:=fun j row k cv h1 h2 => (hr' j row k cv h1 h2).1
 have hv:=fun j row k cv h1 h2 => (hr' j row k cv h1 h2).2
 have h_:True:=trivial
 ·skip
  have hA:=hA hne
  subst hA
  have hlen:∀ row∈rows,row.length = sh.length:=fun row hr => by have:=congrArg List.length (hsh row hr);simpa using this
  have cell:∀ i,i < rows.length * sh.length→∃ row cv,rows[i / sh.length]? = some row∧row[i % sh.length]? = some cv:=fun i hi => by
   have h1:i / sh.length < rows.length:=Nat.div_lt_of_lt_mul (by rw [Nat.mul_comm];exact hi)
   have h2:i % sh.length < (rows[i / sh.length]).length:=by rw [hlen _ (List.getElem_mem h1)];exact Nat.mod_lt _ hs
   exact ⟨_,_,List.getElem?_eq_getElem h1,List.getElem?_eq_getElem h2⟩
  have ng:∀ j u,((List.range (rows.length * sh.length)).map fun i => val (i / sh.length) (i % sh.length))[j]? = some u→j < rows.length * sh.length∧u = val (j / sh.length) (j % sh.length):=fun j u hj => by
   rw [List.getElem?_map,Option.map_eq_some_iff] at hj
   obtain ⟨j',hj',rfl⟩:=hj
   rw [List.getElem?_eq_some_iff] at hj'
   obtain ⟨h1,h2⟩:=hj'
   simp at h1 h2
   subst h2
   exact ⟨h1,rfl⟩
  refine ⟨⟨b,q,none⟩,c,(List.range (rows.length * sh.length)).map fun i => val (i / sh.length) (i % sh.length),rfl,by simp,fun j u hj => ?_,fun u hu => ?_,hsh,fun j row k cv hj hk => ?_⟩
  ·obtain ⟨h1,rfl⟩:=ng j u hj
   obtain ⟨row,cv,h2,h3⟩:=cell j h1
   have:=hr _ row _ cv h2 h3
   rw [Addr.add_mid,←this]
   congr 3
   rw [Nat.mul_comm];exact (Nat.div_add_mod j sh.length).symm
  ·obtain ⟨j,hj⟩:=List.getElem?_of_mem hu
   obtain ⟨h1,rfl⟩:=ng j u hj
   obtain ⟨row,cv,h2,h3⟩:=cell j h1
   exact (hv _ row _ cv h2 h3).one
  ·obtain ⟨hlj,hlk,hlt⟩:=row_lt hsh hj hk
   have e1:(j * sh.length + k) / sh.length = j:=by rw [Nat.mul_comm,Nat.mul_add_div hs,Nat.div_eq_of_lt hlk];omega
   have e2:(j * sh.length + k) % sh.length = k:=by rw [Nat.mul_comm,Nat.mul_add_mod,Nat.mod_eq_of_lt hlk]
   refine ⟨val j k,?_,hv j row k cv hj hk⟩
   rw [List.getElem?_map,List.getElem?_range hlt]
   simp [e1,e2]
theorem str_run {base:Nat} (t u ty e:TypeId) (i:TypeInfo) (ht:P.underlying t = some (.slice e)) (hu:P.underlying u = some .string) (hi:P.info? e = some i) (hz:i.zero = some (.int .u8 0))
  (hsize:i.size = 1) (hby:i.bytes = 1) (v:Value) (n:Nat) (xs:List Value) (hown:w.ownsRow base e 1 v n xs) (s:ByteArray)
  (h63:n + s.size≤maxLen) (hbytes:n + s.size≤140737488355328) (hbase:base≤w.heap.size) :
  ∃ v' w',(Builtin.append_ #[t,u] ty #[v,.string s]).run P w = .ok v' w'∧w'.ownsRow base e 1 v' (n + s.size) (xs++Lib.strCells s) ∧
   ((v'.ownBlock = v.ownBlock∧w.grownBy w' v.ownBlock)∨((∀ b,v'.ownBlock = some b→w.heap.size≤b)∧w.grownBy w' none)):=by
 obtain ⟨v',w',hr,ho,hgr,hnil⟩:=Lib.run_append_own_string (P:=P) w base t u ty e i ht hu hi hz hsize hby v n xs hown s h63 hbytes hbase
 refine ⟨v',w',hr,ho,?_⟩
 rcases hown.2 with ⟨rfl,rfl⟩ | ⟨q,cap,cur,rfl,hbg,hg,hnc,hcm,hcs,htake⟩
 ·by_cases h0:s.size = 0
  ·obtain rfl:=hnil.2 ⟨rfl,h0⟩
   exact .inl ⟨rfl,hgr⟩
  ·have hr2:=run_append_nil_string (P:=P) w t u ty e i (.int .u8 0) ht hu hi hz s (by omega) (by omega) (by rw [hby];omega)
   rw [hr] at hr2
   simp only [Result.ok.injEq] at hr2
   obtain ⟨rfl,_⟩:=hr2
   refine .inr ⟨fun b hb => ?_,hgr⟩
   simp only [Value.ownBlock,Option.some.injEq] at hb
   omega
 ·by_cases hc:n + s.size≤cap
  ·have hr2:=Lib.run_append_room_string (P:=P) w t u ty e i ht hu hi hsize q n cap cur hg s hc (by omega)
   rw [hr] at hr2
   simp only [Result.ok.injEq] at hr2
   obtain ⟨rfl,_⟩:=hr2
   exact .inl ⟨rfl,hgr⟩
  ·have holds:∀ j u,xs[j]? = some u→w.cell? ((⟨q,0,none⟩:Addr).add j) = some u:=fun j u hu => by
    rw [Addr.add_mid,Nat.zero_add]
    rw [←htake,List.getElem?_take] at hu
    split at hu
    ·simp only [World.cell?,hg];simpa using hu
    ·cases hu
   have hr2:=Lib.run_append_grow_string (P:=P) w t u ty e i (.int .u8 0) ht hu hi hz ⟨q,0,none⟩ n cap xs (by rw [hsize];exact hown.1) holds s (by omega) (by unfold maxLen at h63;omega) (by
    rw [hby]
    have:=nextslicecap_le (show cap < n + s.size by omega)
    omega)
   rw [hr] at hr2
   simp only [Result.ok.injEq] at hr2
   obtain ⟨rfl,rfl⟩:=hr2
   refine .inr ⟨fun b hb => ?_,⟨rfl,rfl,rfl,by simp,fun k hk _ => heap_alloc_old w.drew _ k hk⟩⟩
   simp only [Value.ownBlock,Option.some.injEq] at hb
   omega
theorem ti_u8 {t:TypeId} {ti:TI} (h:tiB P t ti = true) (hk:ti.k = .int .u8) (hs:ti.sh = [.int .u8]):∃ i,P.info? t = some i∧i.size = 1∧i.bytes = ti.bytes∧i.zero = some (.int .u8 0):=by
 obtain ⟨i0,hi0,hsz,hby⟩:=Z5A h
 unfold tiB at h
 split at h
 ·rename_i i d hi hd
  obtain rfl:i = i0:=Option.some.inj (hi.symm.trans hi0)
  simp only [Bool.and_eq_true] at h
  have h2:=h.2
  rw [hk,hs] at h2
  simp only [Bool.and_eq_true,beq_iff_eq] at h2
  obtain ⟨hl,hz⟩:=h2
  split at hz
  ·rename_i s v hs' hv
   obtain rfl:=(List.cons.inj hs').1
   refine ⟨i,hi0,by rw [hsz,hl],hby,?_⟩
   rw [hv]
   exact congrArg some (Zdx hz)
  ·cases hz
 ·cases h
theorem str_cells (z:ByteArray) (w:World) (G:Nat→Nat):(Z7g z).length = z.size∧(∀ row∈Z7g z,row.map CV.sh = [.int .u8]) ∧
  ∀ j row k cv,(Z7g z)[j]? = some row→row[k]? = some cv→∃ u,(Lib.strCells z)[j * 1 + k]? = some u∧RepC w G u cv:=by
 refine ⟨by simp [Z7g],fun row h => ?_,fun j row k cv h1 h2 => ?_⟩
 ·simp only [Z7g,List.mem_map] at h
  obtain ⟨b,_,rfl⟩:=h
  rfl
 ·simp only [Z7g,List.getElem?_map,Option.map_eq_some_iff] at h1
  obtain ⟨b,hb,rfl⟩:=h1
  cases k with
  | zero =>
   simp only [List.getElem?_cons_zero,Option.some.injEq] at h2
   subst h2
   refine ⟨.int .u8 b.toNat,?_,.int _ _⟩
   simp only [Lib.strCells,Nat.mul_one,Nat.add_zero,List.getElem?_map,hb,Option.map_some]
  | succ k => simp at h2
theorem good_str (hT:TabOk P tab) (hI:Inv T w0 gp obp g w a s) {c:Call} (ho:o.op = .call c) (hc:c.callee = .builtin .append) {d:Tmp} {x y:AV} {t u:TypeId} (hdst:o.dst = some d) (hargs:c.args.toList.map s.eval = [x,y]) (htys:c.argTypes.toList = [t,u]) {v:AV} {ch:List (Nat×Ob)} (h:(strAct (F0 P T) tab s d t u x y).sem (F0 P T) (fun v' ch' => v' = v∧ch' = ch)):Good P T w0 gp obp w a s o v ch:=by
 obtain ⟨p,q,hpq,rfl,rfl⟩:=ZaI hargs
 have ex:∀ (r:Value) (w':World),(Builtin.append_ #[t,u] o.type #[a.eval p,a.eval q]).run P w = .ok r w'→(execOp a.eval o).run P w = .ok (.value r) w':=by
  intro r w' hr
  unfold execOp
  simp only [ho,resolve,hc,Sem.run_bind,Sem.run_pure,Result.andThen_ok,invoke,builtin,Za4 hpq,Za4 htys]
  simp only [List.map_toArray,List.map_cons,List.map_nil,hr,Result.andThen_ok]
 have hp:=hI.eval p
 have hq:=hI.eval q
 unfold strAct at h
 split at h
 ·rename_i e _ _ _ _ _ _ z htab hutab ey
  rw [ey] at hq
  have hqv:a.eval q = .string z:=(fun v (h:RepC w g.G v (.str z)) => (by cases h;rfl:v = .string z)) _ hq
  split at h
  ·rename_i sz hte
   split at h
   ·exact h.elim
   ·rename_i hd
    have hd:s.ob d = none:=by simpa using hd
    have hti:=hT _ _ hte
    have hu:=Z5s (hT _ _ htab) rfl
    have hus:=ZcT (hT _ _ hutab) rfl
    obtain ⟨i,hi,hisz,hiby,hz⟩:=ti_u8 hti rfl rfl
    have hbase:0≤w.heap.size:=Nat.zero_le _
    obtain ⟨hzl,hzs,hzc⟩:=str_cells z w g.G
    have key:∀ (z':Bool) (X:Value) (xs:List (List CV)) (cs:List Value) (ch:List (Nat×Ob)),a.eval p = X→w.ownsRow 0 e 1 X xs.length cs→(∀ b,X.ownBlock = some b→g.G b = if z' then xs.length * 1 else 0)→(∀ b,X.ownBlock = some b→Bk gp obp b∨w0.heap.size≤b)→(∀ row∈xs,row.map CV.sh = [.int .u8]) →
      (∀ j row k cv,xs[j]? = some row→row[k]? = some cv→∃ u,cs[j * 1 + k]? = some u∧RepC w g.G u cv)→(((xs.length:Int) + (z.size:Int)) * ((1:Nat):Int)≤140737488355328∧(xs.length:Int) + (z.size:Int)≤4611686018427387904) →
      updCh ch s.ob d = some (.row z' e [.int .u8] (xs++Z7g z))→(∀ q,q≠d→updCh ch s.ob q = s.ob q∨updCh ch s.ob q = some .gone) →
      (∀ q x b,q≠d→s.ob q = some x→obBlk g q x = some b→X.ownBlock = some b→updCh ch s.ob q = some .gone)→(∀ q,q≠d→updCh ch s.ob q = some .gone→∀ cs,s.ob q≠some (.box cs))→Good P T w0 gp obp w a s o (.own d) ch:=by
     intro z' X xs cs ch hX hown hG hF hsx hcx hroom hd' hch hch' hchr Q
     obtain ⟨v',w',hr,ho',hcase⟩:=str_run (P:=P) (w:=w) t u o.type e i hu hus hi hz hisz hiby X xs.length cs hown z (by unfold maxLen;omega) (by omega) hbase
     rw [←hzl] at ho'
     obtain ⟨g',hI'⟩:=app_inv (sh:=[.int .u8]) (a:=a) hI hd z' hown ho' hcase hG hF hsx hzs hcx hzc hd' hch hch' hchr
     refine Z51 (ex v' w' ?_) ⟨g',by rw [hdst];exact hI'⟩
     rw [hX,hqv];exact hr
    split at h
    ·rename_i shx ex'
     rw [ex'] at hp
     obtain ⟨⟨h1,h2⟩,rfl,rfl⟩:=h
     have h1:((0:Int) + (z.size:Int)) * ((1:Nat):Int)≤140737488355328:=h1
     have h2:(0:Int) + (z.size:Int)≤4611686018427387904:=h2
     refine key false (.slice none 0 0) [] [] _ hp (World.ownsRow_nil _ _ _ _) (fun b hb => by cases hb) (fun b hb => by cases hb) (fun _ h => by cases h) (fun j _ _ _ h => by cases j <;> cases h) ⟨h1,h2⟩ (by rw [Z1U,if_pos rfl];rfl) (fun q hq => .inl (by rw [Z1U,if_neg hq])) (fun q x b _ _ _ h => by cases h) (fun q hq h cs hc => by rw [Z1U,if_neg hq,hc] at h;cases h)
    ·rename_i qo ex'
     rw [ex'] at hp
     split at h
     ·rename_i zz e' sh' xs hob
      split at h
      ·rename_i hee
       obtain ⟨rfl,hshe⟩:=hee
       have hshe:=Z9u hshe
       subst hshe
       obtain ⟨⟨h1,h2⟩,rfl,rfl⟩:=h
       have h1:((xs.length:Int) + (z.size:Int)) * ((1:Nat):Int)≤140737488355328:=h1
       have h2:(xs.length:Int) + (z.size:Int)≤4611686018427387904:=h2
       obtain ⟨cs,ho1,hs1,hG1,hc1⟩:=hI.obs _ _ hob
       have hqd:qo≠d:=fun e => by rw [e,hd] at hob;cases hob
       have hX:=hp.2 _ _ _ _ hob
       refine key zz (g.top qo) xs cs _ hX ho1 hG1 (fun b hb => hI.fresh qo _ b hob hb) hs1 hc1 ⟨h1,h2⟩ (by simp only [updCh,hqd.symm,if_false,if_true];rfl) (fun q' hq' => ?_) (fun q' x b hq' hx hb hX' => ?_) (fun q' hq' h cs hc => ?_)
       ·by_cases e:q' = qo
        ·right;simp only [updCh,e,if_true]
        ·left;simp only [updCh,e,if_false,hq']
       ·have:q' = qo:=hI.inj q' qo x _ b hx hob hb hX'
        simp only [updCh,this,if_true]
       ·by_cases e:q' = qo
        ·rw [e,hob] at hc;cases hc
        ·simp only [updCh,e,if_false,hq',hc] at h;cases h
      ·exact h.elim
     ·exact h.elim
    ·exact h.elim
  ·exact h.elim
 ·exact h.elim
theorem good_append (hT:TabOk P tab) (hI:Inv T w0 gp obp g w a s) {c:Call} (ho:o.op = .call c) (hc:c.callee = .builtin .append) {v:AV} {ch:List (Nat×Ob)} (h:(opAct (F0 P T) tab s o).sem (F0 P T) (fun v' ch' => v' = v∧ch' = ch)):Good P T w0 gp obp w a s o v ch:=by
 unfold opAct at h
 simp only [ho,hc] at h
 split at h
 ·rename_i d x y t t' hdst hargs htys
  split at h
  ·rename_i ht;subst ht
   obtain ⟨p,q,hpq,rfl,rfl⟩:=ZaI hargs
   have ex:∀ (r:Value) (w':World),(Builtin.append_ #[t,t] o.type #[a.eval p,a.eval q]).run P w = .ok r w'→(execOp a.eval o).run P w = .ok (.value r) w':=by
    intro r w' hr
    unfold execOp
    simp only [ho,resolve,hc,Sem.run_bind,Sem.run_pure,Result.andThen_ok,invoke,builtin,Za4 hpq,Za4 htys]
    simp only [List.map_toArray,List.map_cons,List.map_nil,hr,Result.andThen_ok]
   have hp:=hI.eval p
   have hq:=Z4b (tab:=tab) t (hI.eval q)
   unfold appAct at h
   split at h
   ·rename_i e sz by_ sh htab
    split at h
    ·rename_i te shy ys hte hrow
     have hry:=ZaE hI.obs hrow hq
     split at h
     ·exact h.elim
     ·rename_i hcnd
      simp only [Bool.or_eq_true,Option.isSome_iff_ne_none,ne_eq,decide_eq_true_eq,not_or,Decidable.not_not,Bool.not_eq_true',Bool.not_eq_false] at hcnd
      obtain ⟨⟨⟨hd,hsz0⟩,hshl⟩,hshy⟩:=hcnd
      have hshy:=Z9u hshy
      subst hshy
      have hti:=hT _ _ hte
      have hu:=Z5s (hT _ _ htab) rfl
      obtain ⟨_,i,z,hi,hisz,hiby,hz,hzc,hzs⟩:=ZbO hti (Z8r hti hshl)
      have hbase:0≤w.heap.size:=Nat.zero_le _
      have hsp:0 < te.sh.length:=by omega
      have key:∀ (z':Bool) (X:Value) (xs:List (List CV)) (cs:List Value) (ch:List (Nat×Ob)),a.eval p = X→w.ownsRow 0 e te.sh.length X xs.length cs→(∀ b,X.ownBlock = some b→g.G b = if z' then xs.length * te.sh.length else 0)→(∀ b,X.ownBlock = some b→Bk gp obp b∨w0.heap.size≤b)→(∀ row∈xs,row.map CV.sh = te.sh) →
        (∀ j row k cv,xs[j]? = some row→row[k]? = some cv→∃ u,cs[j * te.sh.length + k]? = some u∧RepC w g.G u cv)→(((xs.length:Int) + ys.length) * te.bytes≤140737488355328∧(xs.length:Int) + ys.length≤4611686018427387904) →
        updCh ch s.ob d = some (.row z' e te.sh (xs++ys))→(∀ q,q≠d→updCh ch s.ob q = s.ob q∨updCh ch s.ob q = some .gone) →
        (∀ q x b,q≠d→s.ob q = some x→obBlk g q x = some b→X.ownBlock = some b→updCh ch s.ob q = some .gone)→(∀ q,q≠d→updCh ch s.ob q = some .gone→∀ cs,s.ob q≠some (.box cs))→Good P T w0 gp obp w a s o (.own d) ch:=by
       intro z' X xs cs ch hX hown hG hF hsx hcx hroom hd' hch hch' hchr Q
       by_cases hne:ys = []
       ·subst hne
        obtain ⟨A,cc,_,_,_,hv,_⟩:=hry
        have hr:=Zbt (P:=P) t o.type e i te.sh.length hu hi hown A cc
        obtain ⟨g',hI'⟩:=app_inv (a:=a) hI hd (ys:=[]) (news:=[]) (v':=X) (w':=w) z' hown (by simpa using hown) (.inl ⟨rfl,World.grownBy.refl _ _⟩) hG hF hsx (fun _ h => by cases h) hcx (fun _ _ _ _ h => by simp at h) hd' hch hch' hchr
        refine Z51 (ex X w ?_) ⟨g',by rw [hdst];exact hI'⟩
        rw [hX,hv];exact hr
       ·have hrm:(xs.length + ys.length) * te.bytes≤140737488355328:=by
         have h3:(((xs.length + ys.length) * te.bytes:Nat):Int)≤140737488355328:=by rw [Int.natCast_mul,Int.natCast_add];exact hroom.1
         exact Int.ofNat_le.1 h3
        obtain ⟨ad,cc,news,hv,hnl,hn1,hn2,hsy,hcy⟩:=flat_news hry hne hsp
        obtain ⟨v',w',hr,ho',hcase⟩:=app_run (P:=P) (w:=w) t o.type e i z te.sh.length te.bytes hu hi hz (by rw [hisz,hshl]) hiby (by rw [hzs,hshl]) hsp X xs.length cs hown ad ys.length cc news hnl hn1 hn2 (by unfold maxLen;omega) hrm hbase
        obtain ⟨g',hI'⟩:=app_inv (a:=a) hI hd z' hown ho' hcase hG hF hsx hsy hcx hcy hd' hch hch' hchr
        refine Z51 (ex v' w' ?_) ⟨g',by rw [hdst];exact hI'⟩
        rw [hX,hv];exact hr
      split at h
      ·rename_i shx ex'
       rw [ex'] at hp
       obtain ⟨⟨h1,h2⟩,rfl,rfl⟩:=h
       have h1:((0:Int) + (ys.length:Int)) * (te.bytes:Int)≤140737488355328:=h1
       have h2:(0:Int) + (ys.length:Int)≤4611686018427387904:=h2
       refine key false (.slice none 0 0) [] [] _ hp (World.ownsRow_nil _ _ _ _) (fun b hb => by cases hb) (fun b hb => by cases hb) (fun _ h => by cases h) (fun j _ _ _ h => by cases j <;> cases h) ⟨h1,h2⟩ (by rw [Z1U,if_pos rfl];rfl) (fun q hq => .inl (by rw [Z1U,if_neg hq])) (fun q x b _ _ _ h => by cases h) (fun q hq h cs hc => by rw [Z1U,if_neg hq,hc] at h;cases h)
      ·rename_i qo ex'
       rw [ex'] at hp
       split at h
       ·rename_i zz e' sh' xs hob
        split at h
        ·rename_i hee
         obtain ⟨rfl,hshe⟩:=hee
         have hshe:=Z9u hshe
         subst hshe
         obtain ⟨⟨h1,h2⟩,rfl,rfl⟩:=h
         have h1:((xs.length:Int) + (ys.length:Int)) * (te.bytes:Int)≤140737488355328:=h1
         have h2:(xs.length:Int) + (ys.length:Int)≤4611686018427387904:=h2
         obtain ⟨cs,ho1,hs1,hG1,hc1⟩:=hI.obs _ _ hob
         have hqd:qo≠d:=fun e => by rw [e,hd] at hob;cases hob
         have hX:=hp.2 _ _ _ _ hob
         refine key zz (g.top qo) xs cs _ hX ho1 hG1 (fun b hb => hI.fresh qo _ b hob hb) hs1 hc1 ⟨h1,h2⟩ (by simp only [updCh,hqd.symm,if_false,if_true];rfl) (fun q' hq' => ?_) (fun q' x b hq' hx hb hX' => ?_) (fun q' hq' h cs hc => ?_)
         ·by_cases e:q' = qo
          ·right;simp only [updCh,e,if_true]
          ·left;simp only [updCh,e,if_false,hq']
         ·have:q' = qo:=hI.inj q' qo x _ b hx hob hb hX'
          simp only [updCh,this,if_true]
         ·by_cases e:q' = qo
          ·rw [e,hob] at hc;cases hc
          ·simp only [updCh,e,if_false,hq',hc] at h;cases h
        ·exact h.elim
       ·exact h.elim
      ·exact h.elim
    ·exact h.elim
   ·exact h.elim
  ·exact good_str hT hI ho hc hdst hargs htys h
 ·exact h.elim
end
end Go.Ev
namespace Go.Ev
section
variable {P:Program} {T:TBs} {tab:Tr} {w0:World} {gp:Gh} {obp:Nat→Option Ob} {g g':Gh} {w w':World} {a:Act} {s:St} {o:Oper}
theorem Z8D:∀ {l:List Nat} {n:Nat},hasN l n = true↔n∈l
 | [],n => by simp [hasN]
 | x::l,n => by
  simp only [hasN,Bool.or_eq_true,Z8D,List.mem_cons]
  constructor
  ·rintro (h | h)
   ·exact .inl (by simpa using h:x = n).symm
   ·exact .inr h
  ·rintro (h | h)
   ·subst h;exact .inl (by simp)
   ·exact .inr h
theorem Z4v:∀ {l:List Nat},Z6K l = true→l.Nodup
 | [],_ => List.nodup_nil
 | x::l,h => by
  simp only [Z6K,Bool.and_eq_true,Bool.not_eq_true'] at h
  exact List.nodup_cons.2 ⟨fun hm => (by have:=Z8D.2 hm;rw [h.1] at this;cases this),Z4v h.2⟩
theorem ZbG:∀ {l:List Nat} {i j q:Nat},l.Nodup→l[i]? = some q→l[j]? = some q→i = j
 | [],_,_,_,_,h,_ => by simp at h
 | x::l,0,0,_,_,_,_ => rfl
 | x::l,0,j + 1,q,hn,h,h' => by
  simp at h;subst h
  exact absurd (List.mem_of_getElem? (by simpa using h')) (List.nodup_cons.1 hn).1
 | x::l,i + 1,0,q,hn,h,h' => by
  simp at h';subst h'
  exact absurd (List.mem_of_getElem? (by simpa using h)) (List.nodup_cons.1 hn).1
 | x::l,i + 1,j + 1,q,hn,h,h' => by
  exact congrArg (· + 1) (ZbG (q:=q) (List.nodup_cons.1 hn).2 (by simpa using h) (by simpa using h'))
theorem Z8z:∀ {l:List Nat} {k o m:Nat},idx l k o = some m→∃ j,l[j]? = some o∧m = k + j
 | [],_,_,_,h => by cases h
 | x::l,k,o,m,h => by
  unfold idx at h
  split at h
  ·rename_i e;subst e;obtain rfl:=Option.some.inj h;exact ⟨0,rfl,rfl⟩
  ·obtain ⟨j,h1,h2⟩:=Z8z h
   exact ⟨j + 1,by simpa using h1,by omega⟩
theorem tyFixs_rep {ob:Nat→Option Ob} (us:Nat→Value):∀ (ts:List TypeId) (vs:List AV),(∀ k c,vs[k]? = some c→Rep w g ob (us k) c)→∀ k c,(Z4n tab ts vs)[k]? = some c→Rep w g ob (us k) c:=by
 intro ts
 induction ts generalizing us with
 | nil => intro vs h;cases vs <;> simpa [Z4n] using h
 | cons t ts ih =>
  intro vs h
  cases vs with
  | nil => simpa [Z4n] using h
  | cons v vs =>
   intro k c hk
   unfold Z4n at hk
   cases k with
   | zero => simp at hk;subst hk;exact Z4b t (h 0 v rfl)
   | succ k => exact ih (fun k => us (k + 1)) vs (fun k c hc => h (k + 1) c (by simpa using hc)) k c (by simpa using hk)
theorem Z8M:∀ (ts:List TypeId) (vs:List AV),(Z4n tab ts vs).length = vs.length
 | [],vs => by cases vs <;> rfl
 | t::ts,[] => rfl
 | t::ts,v::vs => by simp [Z4n,Z8M ts vs]
def gIn (g:Gh) (hs:List Nat):Gh:=⟨fun q => g.blk (hs.getD (q - 10000) 0),fun q => g.top (hs.getD (q - 10000) 0),g.G⟩
theorem Z6z {m:Bool} {hs:List Nat} {ob:Nat→Option Ob}:∀ {l:List Nat} {ins:List Ob},inOs m hs ob l = some ins→ins.length = l.length∧∀ (k o:Nat),l[k]? = some o→∃ x,ins[k]? = some x∧inO m hs ob o = some x
 | [],ins,h => by
  simp only [inOs,Option.some.injEq] at h;subst h
  exact ⟨rfl,fun k o h => by simp at h⟩
 | p::l,ins,h => by
  unfold inOs at h
  split at h
  ·rename_i c cs h1 h2
   obtain rfl:=Option.some.inj h
   obtain ⟨h3,h4⟩:=Z6z h2
   refine ⟨by simp [h3],fun k o hk => ?_⟩
   cases k with
   | zero => simp at hk;subst hk;exact ⟨c,rfl,h1⟩
   | succ k => exact h4 k o (by simpa using hk)
  ·cases h
theorem obIn_at {ins:List Ob} {j:Nat}:obIn ins (10000 + j) = ins[j]?:=by
 unfold obIn;rw [if_neg (by omega),Nat.add_sub_cancel_left]
theorem Zbn {ins:List Ob} {q:Nat} {x:Ob} (h:obIn ins q = some x):∃ j,q = 10000 + j∧ins[j]? = some x:=by
 unfold obIn at h
 split at h
 ·cases h
 ·exact ⟨q - 10000,by omega,h⟩
theorem Z9L {hs:List Nat} {j o:Nat} (h:hs[j]? = some o):(gIn g hs).blk (10000 + j) = g.blk o∧(gIn g hs).top (10000 + j) = g.top o:=by
 simp [gIn,List.getD_eq_getElem?_getD,h]
section
variable {m:Bool} {hs:List Nat} {ins:List Ob} (hob:∀ o x,s.ob o = some x→RepOb w g s.ob o x) (hin:inOs m hs s.ob hs = some ins)
include hin
theorem in_at {j o:Nat} (h:hs[j]? = some o):∃ x,obIn ins (10000 + j) = some x∧inO m hs s.ob o = some x:=by
 obtain ⟨x,h1,h2⟩:=(Z6z hin).2 j o h
 exact ⟨x,by rw [obIn_at];exact h1,h2⟩
theorem in_of {q:Nat} {x:Ob} (h:obIn ins q = some x):∃ j o,q = 10000 + j∧hs[j]? = some o∧inO m hs s.ob o = some x:=by
 obtain ⟨j,rfl,hj⟩:=Zbn h
 have hlt:j < hs.length:=by rw [←(Z6z hin).1];exact (List.getElem?_eq_some_iff.1 hj).1
 obtain ⟨x',h1,h2⟩:=(Z6z hin).2 j _ (List.getElem?_eq_getElem hlt)
 rw [hj] at h1;obtain rfl:=Option.some.inj h1
 exact ⟨j,_,rfl,List.getElem?_eq_getElem hlt,h2⟩
omit hin in
theorem ZbQ {o:Nat} {cs:List AV} (h:inO m hs s.ob o = some (.box cs)):∃ cs0,s.ob o = some (.box cs0)∧boxCs m hs cs0 = some cs:=by
 unfold inO at h
 split at h
 ·rename_i cs0 h0
  rw [Option.map_eq_some_iff] at h
  obtain ⟨l,h1,h2⟩:=h
  cases h2
  exact ⟨cs0,h0,h1⟩
 ·cases h
 ·cases h
omit hin in
theorem Z9q {o:Nat} {z:Bool} {e:Nat} {sh:List Sh} {rows:List (List CV)} (h:inO m hs s.ob o = some (.row z e sh rows)):s.ob o = some (.row z e sh rows):=by
 unfold inO at h
 split at h
 ·rw [Option.map_eq_some_iff] at h
  obtain ⟨l,h1,h2⟩:=h
  cases h2
 ·rename_i h0;cases h;exact h0
 ·cases h
include hob
theorem Zdp {v:Value} {x y:AV} (hx:argC m hs s.ob x = some y) (hz:∀ q,x = .own q→q ∉ hs→∀ z e sh rows,s.ob q = some (.row z e sh rows)→z = true) (h:Rep0 w g s.ob v x):Rep0 w (gIn g hs) (obIn ins) v y∧Z1X y:=by
 cases x <;> simp only [argC] at hx <;> try (cases hx;done)
 ·cases hx;exact ⟨h,trivial⟩
 ·cases hx;rw [show v = .bool true from h];exact ⟨.bool _,trivial⟩
 ·cases hx;rw [show v = .bool false from h];exact ⟨.bool _,trivial⟩
 ·cases m
  ·cases hx;rw [show v = .slice none 0 0 from h];exact ⟨Z63 _,trivial⟩
  ·cases hx;exact ⟨h,trivial⟩
 ·rename_i q off
  split at hx
  ·rename_i k hk
   cases hx
   obtain ⟨j,hj,rfl⟩:=Z8z hk
   obtain ⟨x,h1,h2⟩:=in_at hin hj
   refine ⟨⟨⟨x,h1⟩,fun cs hc => ?_⟩,trivial⟩
   rw [h1] at hc;obtain rfl:=Option.some.inj hc
   obtain ⟨cs0,h3,_⟩:=ZbQ h2
   rw [(Z9L hj).1];exact h.2 cs0 h3
  ·cases hx
 ·rename_i q
  split at hx
  ·rename_i k hk
   cases hx
   obtain ⟨j,hj,rfl⟩:=Z8z hk
   obtain ⟨x,h1,h2⟩:=in_at hin hj
   refine ⟨⟨⟨x,h1⟩,fun z e sh rows hc => ?_⟩,trivial⟩
   rw [h1] at hc;obtain rfl:=Option.some.inj hc
   rw [(Z9L hj).2];exact h.2 z e sh rows (Z9q h2)
  ·rename_i hk
   split at hx
   ·rename_i z e sh rows hq
    cases hx
    have hn:q ∉ hs:=fun hm => by
     obtain ⟨j,hj⟩:=List.getElem?_of_mem hm
     have:∀ (l:List Nat) (k:Nat),q∈l→idx l k q≠none:=by
      intro l
      induction l with
      | nil => intro k h;cases h
      | cons x l ih =>
       intro k h
       unfold idx
       split
       ·simp
       ·rename_i hne
        rcases List.mem_cons.1 h with e | h
        ·exact absurd e.symm hne
        ·exact ih _ h
     exact this hs 10000 hm hk
    obtain rfl:=hz q rfl hn _ _ _ _ hq
    refine ⟨?_,trivial⟩
    rw [h.2 _ _ _ _ hq]
    exact Ze1 (hob _ _ hq)
   ·cases hx
 ·cases hx;exact ⟨h,trivial⟩
theorem boxC_rep {v:Value} {x y:AV} (hx:boxC m hs x = some y) (h:Rep0 w g s.ob v x):Rep0 w (gIn g hs) (obIn ins) v y∧Z1X y:=by
 cases x <;> try (exact Zdp (s:=s) hob hin (by simpa only [boxC,argC] using hx) (fun q hq => by cases hq) h)
 rename_i q
 simp only [boxC] at hx
 split at hx
 ·rename_i k hk
  cases hx
  obtain ⟨j,hj,rfl⟩:=Z8z hk
  obtain ⟨x,h1,h2⟩:=in_at hin hj
  refine ⟨⟨⟨x,h1⟩,fun z e sh rows hc => ?_⟩,trivial⟩
  rw [h1] at hc;obtain rfl:=Option.some.inj hc
  rw [(Z9L hj).2];exact h.2 z e sh rows (Z9q h2)
 ·cases hx
theorem boxCs_rep:∀ {cs l:List AV} (vs:Nat→Value),boxCs m hs cs = some l→(∀ k c,cs[k]? = some c→Rep0 w g s.ob (vs k) c)→l.length = cs.length∧∀ k c,l[k]? = some c→Rep0 w (gIn g hs) (obIn ins) (vs k) c∧Z1X c
 | [],l,vs,h,_ => by
  simp only [boxCs,Option.some.injEq] at h
  subst h
  exact ⟨rfl,fun k c hc => by simp at hc⟩
 | x::xs,l,vs,h,hr => by
  unfold boxCs at h
  split at h
  ·rename_i c cs' h1 h2
   obtain rfl:=Option.some.inj h
   obtain ⟨hl,hrr⟩:=boxCs_rep (fun k => vs (k + 1)) h2 (fun k c hc => hr (k + 1) c (by simpa using hc))
   refine ⟨by simp [hl],fun k c' hk => ?_⟩
   cases k with
   | zero => simp at hk;subst hk;exact boxC_rep hob hin h1 (hr 0 x rfl)
   | succ k => exact hrr k c' (by simpa using hk)
  ·cases h
theorem Zcd:∀ {cs l:List AV} (vs:Nat→Value),argsC m hs s.ob cs = some l→(∀ q,.own q∈cs→q ∉ hs→∀ z e sh rows,s.ob q = some (.row z e sh rows)→z = true)→(∀ k c,cs[k]? = some c→Rep0 w g s.ob (vs k) c)→l.length = cs.length∧∀ k c,l[k]? = some c→Rep0 w (gIn g hs) (obIn ins) (vs k) c
 | [],l,vs,h,_,_ => by
  simp only [argsC,Option.some.injEq] at h
  subst h
  exact ⟨rfl,fun k c hc => by simp at hc⟩
 | x::xs,l,vs,h,hz,hr => by
  unfold argsC at h
  split at h
  ·rename_i c cs' h1 h2
   obtain rfl:=Option.some.inj h
   obtain ⟨hl,hrr⟩:=Zcd (fun k => vs (k + 1)) h2 (fun q hq => hz q (List.mem_cons_of_mem _ hq)) (fun k c hc => hr (k + 1) c (by simpa using hc))
   refine ⟨by simp [hl],fun k c' hk => ?_⟩
   cases k with
   | zero => simp at hk;subst hk;exact (Zdp hob hin h1 (fun q hq => hz q (by rw [hq];exact List.mem_cons_self)) (hr 0 x rfl)).1
   | succ k => exact hrr k c' (by simpa using hk)
  ·cases h
theorem arg1_rep {v:Value} {x y:AV} (hx:arg1 m hs s.ob x = some y) (hz:∀ q∈owns1 x,q ∉ hs→∀ z e sh rows,s.ob q = some (.row z e sh rows)→z = true) (h:Rep w g s.ob v x):Rep1 w (gIn g hs) (obIn ins) v y:=by
 have flat:∀ x,argC m hs s.ob x = some y→(∀ q,x = .own q→q∈owns1 x)→(∀ q∈owns1 x,q ∉ hs→∀ z e sh rows,s.ob q = some (.row z e sh rows)→z = true)→Rep0 w g s.ob v x→Rep1 w (gIn g hs) (obIn ins) v y:=fun x hx ho hz h => ZC (Zdp hob hin hx (fun q hq => hz q (ho q hq)) h).1
 cases x with
 | agg cs =>
  simp only [arg1,Option.map_eq_some_iff] at hx
  obtain ⟨l,hl,rfl⟩:=hx
  obtain ⟨vs,h1,h2,h3⟩:=h
  obtain ⟨h4,h5⟩:=Zcd hob hin (fun k => vs.getD k undef) hl (fun q hq => hz q (by simp only [owns1,List.mem_flatMap];exact ⟨_,hq,by simp [owns]⟩)) h3
  exact ⟨vs,h1,by omega,h5⟩
 | clo f cs =>
  simp only [arg1,Option.map_eq_some_iff] at hx
  obtain ⟨l,hl,rfl⟩:=hx
  obtain ⟨vs,h1,h2,h3⟩:=h
  obtain ⟨h4,h5⟩:=Zcd hob hin (fun k => vs.getD k undef) hl (fun q hq => hz q (by simp only [owns1,List.mem_flatMap];exact ⟨_,hq,by simp [owns]⟩)) h3
  exact ⟨vs,h1,by omega,h5⟩
 | own q => exact flat (.own q) hx (fun q' hq => by cases hq;simp [owns1,owns]) hz h
 | tup _ => simp [arg1,argC] at hx
 | c v => exact flat (.c v) hx (fun q' hq => by cases hq) hz h
 | tt => exact flat .tt hx (fun q' hq => by cases hq) hz h
 | ff => exact flat .ff hx (fun q' hq => by cases hq) hz h
 | nil sh => exact flat (.nil sh) hx (fun q' hq => by cases hq) hz h
 | ptr p off => exact flat (.ptr p off) hx (fun q' hq => by cases hq) hz h
 | ifc b => exact flat (.ifc b) hx (fun q' hq => by cases hq) hz h
 | elp _ _ _ _ => simp [arg1,argC] at hx
 | elo _ _ _ => simp [arg1,argC] at hx
 | dead => simp [arg1,argC] at hx
theorem args1_rep:∀ {cs l:List AV} (vs:Nat→Value),args1 m hs s.ob cs = some l→(∀ q∈cs.flatMap owns1,q ∉ hs→∀ z e sh rows,s.ob q = some (.row z e sh rows)→z = true)→(∀ k c,cs[k]? = some c→Rep w g s.ob (vs k) c)→l.length = cs.length∧∀ k c,l[k]? = some c→Rep1 w (gIn g hs) (obIn ins) (vs k) c
 | [],l,vs,h,_,_ => by
  simp only [args1,Option.some.injEq] at h
  subst h
  exact ⟨rfl,fun k c hc => by simp at hc⟩
 | x::xs,l,vs,h,hz,hr => by
  unfold args1 at h
  split at h
  ·rename_i c cs' h1 h2
   obtain rfl:=Option.some.inj h
   obtain ⟨hl,hrr⟩:=args1_rep (fun k => vs (k + 1)) h2 (fun q hq => hz q (by rw [List.flatMap_cons];exact List.mem_append_right _ hq)) (fun k c hc => hr (k + 1) c (by simpa using hc))
   refine ⟨by simp [hl],fun k c' hk => ?_⟩
   cases k with
   | zero => simp at hk;subst hk;exact arg1_rep hob hin h1 (fun q hq => hz q (by rw [List.flatMap_cons];exact List.mem_append_left _ hq)) (hr 0 x rfl)
   | succ k => exact hrr k c' (by simpa using hk)
  ·cases h
theorem ins_rep {q:Nat} {x:Ob} (h:obIn ins q = some x):RepOb w (gIn g hs) (obIn ins) q x:=by
 obtain ⟨j,o,rfl,hj,h1⟩:=in_of hin h
 obtain ⟨e1,e2⟩:=Z9L (g:=g) hj
 cases x with
 | gone => trivial
 | box cs =>
  obtain ⟨cs0,h2,h3⟩:=ZbQ h1
  obtain ⟨vs,e,h4,h5,h6,h7⟩:=hob _ _ h2
  obtain ⟨h8,h9⟩:=boxCs_rep hob hin (fun k => vs.getD k undef) h3 (fun k c hc => (h6 k c hc).1)
  exact ⟨vs,e,by rw [e1];exact h4,by omega,h9,by rw [e1];exact h7⟩
 | row z e sh rows =>
  obtain ⟨cs,h2,h3,h4,h5⟩:=hob _ _ (Z9q h1)
  exact ⟨cs,by rw [e2];exact h2,h3,fun b hb => h4 b (by rw [←e2];exact hb),h5⟩
end
theorem in_blk {m:Bool} {hs:List Nat} {ins:List Ob} (hin:inOs m hs s.ob hs = some ins) {q b:Nat} {x:Ob} (h:obIn ins q = some x) (hb:obBlk (gIn g hs) q x = some b):∃ j o x0,q = 10000 + j∧hs[j]? = some o∧s.ob o = some x0∧obBlk g o x0 = some b:=by
 obtain ⟨j,o,rfl,hj,h1⟩:=in_of hin h
 obtain ⟨e1,e2⟩:=Z9L (g:=g) hj
 cases x with
 | gone => simp [obBlk] at hb
 | box cs =>
  obtain ⟨cs0,h2,_⟩:=ZbQ h1
  exact ⟨j,o,_,rfl,hj,h2,by simp only [obBlk,e1] at hb ⊢;exact hb⟩
 | row z e sh rows => exact ⟨j,o,_,rfl,hj,Z9q h1,by simp only [obBlk,e2] at hb ⊢;exact hb⟩
theorem ins_inj (hI:Inv T w0 gp obp g w a s) {m:Bool} {hs:List Nat} {ins:List Ob} (hin:inOs m hs s.ob hs = some ins) (hnd:hs.Nodup):∀ o o' x x' b,obIn ins o = some x→obIn ins o' = some x'→obBlk (gIn g hs) o x = some b→obBlk (gIn g hs) o' x' = some b→o = o':=by
 intro q q' x x' b h1 h2 h3 h4
 obtain ⟨j,o,x0,rfl,k1,k2,k3⟩:=in_blk hin h1 h3
 obtain ⟨j',o',x0',rfl,l1,l2,l3⟩:=in_blk hin h2 h4
 have:=hI.inj o o' x0 x0' b k2 l2 k3 l3
 subst this
 rw [ZbG hnd k1 l1]
end
end Go.Ev
namespace Go.Ev
section
variable {P:Program} {T:TBs} {tab:Tr} {w0:World} {gp:Gh} {obp:Nat→Option Ob} {g g':Gh} {w w':World} {a:Act} {s:St} {o:Oper}
theorem upd_app:∀ (c1 c2:List (Nat×Ob)) (ob:Nat→Option Ob),updCh (c1++c2) ob = updCh c1 (updCh c2 ob)
 | [],_,_ => rfl
 | (o,x)::r,c2,ob => by
  funext q
  show (if q = o then some x else updCh (r++c2) ob q) = (if q = o then some x else updCh r (updCh c2 ob) q)
  rw [upd_app r c2 ob]
theorem Zcc (hs:List Nat) (b:Nat) (ob:Nat→Option Ob):∀ (news:List Ob) (k q:Nat),updCh (Z6B hs b k news) ob q = if b + k≤q∧q < b + k + news.length then (news[q - (b + k)]?).map (renO hs b) else ob q
 | [],k,q => by
  rw [if_neg (by simp only [List.length_nil];omega)];rfl
 | x::news,k,q => by
  rw [Z6B]
  show (if q = b + k then some (renO hs b x) else updCh (Z6B hs b (k + 1) news) ob q) = _
  by_cases e:q = b + k
  ·subst e
   have h1:b + k≤b + k∧b + k < b + k + (x::news).length:=by simp
   rw [if_pos rfl,if_pos h1,Nat.sub_self]
   rfl
  ·rw [if_neg e,Zcc hs b ob news (k + 1) q]
   by_cases h:b + (k + 1)≤q∧q < b + (k + 1) + news.length
   ·have h2:b + k≤q∧q < b + k + (x::news).length:=by simp;omega
    rw [if_pos h,if_pos h2]
    rw [show q - (b + k) = (q - (b + (k + 1))) + 1 by omega,List.getElem?_cons_succ]
   ·have h2:¬ (b + k≤q∧q < b + k + (x::news).length):=by simp;omega
    rw [if_neg h,if_neg h2]
theorem outs_look (hs:List Nat) (b:Nat) (ob:Nat→Option Ob):∀ (l:List Nat) (outs:List Ob),l.Nodup→outs.length = l.length→(∀ j q:Nat,l[j]? = some q→∃ x,outs[j]? = some x∧updCh (Z6A hs b l outs) ob q = some (renO hs b x))∧∀ q,q ∉ l→updCh (Z6A hs b l outs) ob q = ob q
 | [],outs,_,_ => ⟨fun j q h => by simp at h,fun q _ => by cases outs <;> rfl⟩
 | h::l,[],_,hl => by simp at hl
 | h::l,x::outs,hn,hl => by
  obtain ⟨h1,h2⟩:=outs_look hs b ob l outs (List.nodup_cons.1 hn).2 (by simpa using hl)
  have look:∀ q,updCh (Z6A hs b (h::l) (x::outs)) ob q = if q = h then some (renO hs b x) else updCh (Z6A hs b l outs) ob q:=fun q => rfl
  refine ⟨fun j q hj => ?_,fun q hq => ?_⟩
  ·cases j with
   | zero => simp at hj;subst hj;exact ⟨x,rfl,by rw [look,if_pos rfl]⟩
   | succ j =>
    have hj:l[j]? = some q:=by simpa using hj
    have hne:q≠h:=fun e => (List.nodup_cons.1 hn).1 (e ▸ List.mem_of_getElem? hj)
    obtain ⟨y,hy,h3⟩:=h1 j q hj
    exact ⟨y,by simpa using hy,by rw [look,if_neg hne];exact h3⟩
  ·simp only [List.mem_cons,not_or] at hq
   rw [look,if_neg hq.1];exact h2 q hq.2
theorem free_all {ob:Nat→Option Ob} {b:Nat}:∀ {n k:Nat},Z4s ob b k n = true→∀ q,b + k≤q→q < b + k + n→ob q = none
 | 0,k,_,q,h1,h2 => by omega
 | n + 1,k,h,q,h1,h2 => by
  simp only [Z4s,Bool.and_eq_true,Option.isNone_iff_eq_none] at h
  by_cases e:q = b + k
  ·subst e;exact h.1
  ·exact free_all h.2 q (by omega) (by omega)
theorem flat_cv {G G':Nat→Nat} {v:Value} {cv:CV} (h:RepC w G v cv) (hf:∀ s r,cv≠.sl s r):RepC w' G' v cv:=by
 cases h with
 | int k n => exact .int k n
 | bool b => exact .bool b
 | str s => exact .str s
 | fn f => exact .fn f
 | sl A c sh rows val b o hc hsh hA hr hv => exact absurd rfl (hf _ _)
open Classical in
theorem call_inv (hI:Inv T w0 gp obp g w a s) {Gc:Nat→Nat} {m:Bool} {hs:List Nat} {ins:List Ob} {b:Nat} {r:AV} {news outs:List Ob} {v:Value} (hin:inOs m hs s.ob hs = some ins) (hnd:hs.Nodup)
  (hGc:∀ b,g.G b≤Gc b) (hGi:∀ o∈hs,∀ x b,s.ob o = some x→obBlk g o x = some b→Gc b = g.G b)
  (hR:Res w (gIn ⟨g.blk,g.top,Gc⟩ hs) ins r news outs v w' g') (hfree:Z4s s.ob b 0 news.length = true) (hlo:outs.length = hs.length) (hn16:news.length≤16)
  (hfl:ZdG r news outs = true∨Gc = g.G) (d:Option Tmp) :
  ∃ g2,Inv T w0 gp obp g2 w' (a.put d v) (s.put d (renA hs b r) (Z6A hs b hs outs++Z6B hs b 0 news)):=by
 generalize hch:Z6A hs b hs outs++Z6B hs b 0 news = ch
 have hlen:=(Z6z hin).1
 have hfr:=free_all hfree
 obtain ⟨lo1,lo2⟩:=outs_look hs b (updCh (Z6B hs b 0 news) s.ob) hs outs hnd hlo
 have hob:updCh ch s.ob = updCh (Z6A hs b hs outs) (updCh (Z6B hs b 0 news) s.ob):=by rw [←hch,upd_app]
 generalize hobR:updCh ch s.ob = obR at hob
 have hsome:∀ j q:Nat,hs[j]? = some q→∃ x xi,s.ob q = some x∧obIn ins (10000 + j) = some xi∧inO m hs s.ob q = some xi:=fun j q hq => by
  obtain ⟨xi,h1,h2⟩:=in_at hin hq
  cases xi with
  | gone => unfold inO at h2;split at h2 <;> simp at h2
  | box cs => obtain ⟨cs0,h3,_⟩:=ZbQ h2;exact ⟨_,_,h3,h1,h2⟩
  | row z e sh rows => exact ⟨_,_,Z9q h2,h1,h2⟩
 have hnew:∀ q,b≤q→q < b + news.length→s.ob q = none∧q ∉ hs:=fun q h1 h2 => by
  have h3:=hfr q (by omega) (by omega)
  refine ⟨h3,fun hm => ?_⟩
  obtain ⟨j,hj⟩:=List.getElem?_of_mem hm
  obtain ⟨x,_,hx,_⟩:=hsome j q hj
  rw [h3] at hx;cases hx
 have lkn:∀ k x,news[k]? = some x→obR (b + k) = some (renO hs b x):=fun k x hx => by
  have hk:=(List.getElem?_eq_some_iff.1 hx).1
  rw [hob,lo2 _ (hnew (b + k) (by omega) (by omega)).2,Zcc,if_pos (by omega),show b + k - (b + 0) = k by omega,hx];rfl
 have lkh:∀ j q:Nat,hs[j]? = some q→∃ x,outs[j]? = some x∧obR q = some (renO hs b x):=fun j q hq => by
  obtain ⟨x,h1,h2⟩:=lo1 j q hq
  exact ⟨x,h1,by rw [hob];exact h2⟩
 have lke:∀ q,q ∉ hs→¬ (b≤q∧q < b + news.length)→obR q = s.ob q:=fun q h1 h2 => by
  rw [hob,lo2 _ h1,Zcc,if_neg (by omega)]
 let H:Nat→Prop:=Bk (gIn ⟨g.blk,g.top,Gc⟩ hs) (obIn ins)
 let G2:Nat→Nat:=fun k => if k < w.heap.size∧¬ H k then g.G k else g'.G k
 let g2:Gh:=⟨fun q => if b≤q∧q < b + news.length then g'.blk (q - b) else g.blk q,fun q => if b≤q∧q < b + news.length then g'.top (q - b) else g.top q,G2⟩
 have blkn:∀ k x,news[k]? = some x→g2.blk (b + k) = g'.blk k∧g2.top (b + k) = g'.top k:=fun k x hx => by
  have hk:=(List.getElem?_eq_some_iff.1 hx).1
  simp [g2,hk]
 have blke:∀ q,¬ (b≤q∧q < b + news.length)→g2.blk q = g.blk q∧g2.top q = g.top q:=fun q hq => by simp [g2,hq]
 have hsn:∀ q:Nat,q∈hs→¬ (b≤q∧q < b + news.length):=fun q hq h => (hnew q h.1 h.2).2 hq
 have hold_:∀ j q:Nat,hs[j]? = some q→∃ x x',s.ob q = some x∧outs[j]? = some x'∧obOut news outs (10000 + j) = some x'∧(∀ cs,x' = .box cs→(∃ cs0,x = .box cs0)∧g'.blk (10000 + j) = g.blk q) ∧
   (∀ z e sh rows,x' = .row z e sh rows→(∃ z0 rows0,x = .row z0 e sh rows0∧rows0.length = rows.length)∧g'.top (10000 + j) = g.top q)∧∀ cs,x = .box cs→∃ cs',x' = .box cs':=fun j q hq => by
  obtain ⟨x,xi,h1,h2,h3⟩:=hsome j q hq
  obtain ⟨e1,e2⟩:=Z9L (g:=⟨g.blk,g.top,Gc⟩) hq
  obtain ⟨x',k1,k2,k3,k4⟩:=hR.keep _ _ h2
  have k1':outs[j]? = some x':=by
   have:obOut news outs (10000 + j) = outs[j]?:=by unfold obOut;rw [if_neg (by omega),Nat.add_sub_cancel_left]
   rw [←this];exact k1
  refine ⟨x,x',h1,k1',k1,fun cs hc => ?_,fun z e sh rows hc => ?_,fun cs hc => ?_⟩
  ·obtain ⟨⟨cs0,h4⟩,h5⟩:=k2 cs hc
   subst h4
   obtain ⟨cs1,h6,_⟩:=ZbQ h3
   rw [h1] at h6
   exact ⟨⟨cs1,Option.some.inj h6⟩,h5.trans e1⟩
  ·obtain ⟨⟨z0,rows0,h4,h5⟩,h6⟩:=k3 z e sh rows hc
   subst h4
   have h7:=Z9q h3
   rw [h1] at h7
   exact ⟨⟨z0,rows0,Option.some.inj h7,h5⟩,h6.trans e2⟩
  ·subst hc
   unfold inO at h3
   rw [h1] at h3
   simp only [Option.map_eq_some_iff] at h3
   obtain ⟨l,_,h4⟩:=h3
   exact k4 l h4.symm
 have HB:∀ k,H k→∃ q x,q∈hs∧s.ob q = some x∧obBlk g q x = some k:=fun k hk => by
  obtain ⟨q,x,h1,h2⟩:=hk
  obtain ⟨j,o,x0,_,h3,h4,h5⟩:=in_blk (g:=⟨g.blk,g.top,Gc⟩) hin h1 h2
  exact ⟨o,x0,List.mem_of_getElem? h3,h4,by rw [←h5];cases x0 <;> rfl⟩
 have HB':∀ q x k,s.ob q = some x→obBlk g q x = some k→H k→q∈hs:=fun q x k h1 h2 h3 => by
  obtain ⟨q',x',h4,h5,h6⟩:=HB k h3
  rw [hI.inj q q' x x' k h1 h5 h2 h6];exact h4
 have hwle:w.heap.size≤w'.heap.size:=hR.grow.size
 have h0le:w0.heap.size≤w.heap.size:=hI.grow.size
 have G2same:∀ k,k < w.heap.size→¬ H k→G2 k = g.G k:=fun k h1 h2 => if_pos ⟨h1,h2⟩
 have G2new:∀ k,¬ (k < w.heap.size∧¬ H k)→G2 k = g'.G k:=fun k h => if_neg h
 have G2eq:Gc = g.G→G2 = g'.G:=fun e => by
  funext k
  by_cases h:k < w.heap.size∧¬ H k
  ·rw [G2same k h.1 h.2,hR.old k h.1 h.2];show g.G k = Gc k;rw [e]
  ·exact G2new k h
 have he:Ext w g.G w' G2:=fun k p hp => by
  have hk:k < w.heap.size:=by
   rcases Nat.lt_or_ge k w.heap.size with h | h
   ·exact h
   ·rw [hI.gz k h] at hp;omega
  by_cases hH:H k
  ·obtain ⟨h1,h2⟩:=hR.ext k p (Nat.lt_of_lt_of_le hp (hGc k))
   exact ⟨by rw [G2new k (fun h => h.2 hH)];exact h1,h2⟩
  ·exact ⟨by rw [G2same k hk hH];exact hp,by simp only [World.cell?,hR.grow.block k hk hH]⟩
 have hk:Keep g s.ob g2 obR:=fun q x hx => by
  by_cases hq:q∈hs
  ·obtain ⟨j,hj⟩:=List.getElem?_of_mem hq
   obtain ⟨x0,x',h1,h2,_,h3,h4,h5⟩:=hold_ j q hj
   rw [hx] at h1;obtain rfl:=Option.some.inj h1
   obtain ⟨y,k1,k2⟩:=lkh j q hj
   rw [h2] at k1;obtain rfl:=Option.some.inj k1
   obtain ⟨e1,e2⟩:=blke q (hsn q hq)
   refine ⟨_,k2,fun cs hc => ?_,fun z e sh rows hc => ?_,fun cs hc => ?_⟩
   ·cases x' <;> simp only [renO] at hc <;> try cases hc
    exact ⟨(h3 _ rfl).1,e1⟩
   ·cases x' <;> simp only [renO] at hc <;> try cases hc
    exact ⟨(h4 _ _ _ _ rfl).1,e2⟩
   ·obtain ⟨cs',rfl⟩:=h5 cs hc
    exact ⟨_,rfl⟩
  ·have hn:¬ (b≤q∧q < b + news.length):=fun h => by
    have:=(hnew q h.1 h.2).1;rw [hx] at this;cases this
   obtain ⟨e1,e2⟩:=blke q hn
   exact Keep.one (by rw [lke q hq hn];exact hx) e1 e2
 have num:∀ q x,obOut news outs q = some x→obR (numB hs b q) = some (renO hs b x)∧(∀ cs,x = .box cs→g2.blk (numB hs b q) = g'.blk q)∧(∀ z e sh rows,x = .row z e sh rows→g2.top (numB hs b q) = g'.top q):=fun q x hx => by
  unfold obOut at hx
  unfold numB
  split at hx
  ·rename_i hlt
   rw [if_pos hlt]
   exact ⟨lkn q x hx,fun _ _ => (blkn q x hx).1,fun _ _ _ _ _ => (blkn q x hx).2⟩
  ·rename_i hge
   rw [if_neg hge]
   have hlt:q - 10000 < hs.length:=by rw [←hlo];exact (List.getElem?_eq_some_iff.1 hx).1
   have hj:hs[q - 10000]? = some (hs.getD (q - 10000) 0):=by simp [hlt]
   obtain ⟨x0,x',h1,h2,h2',h3,h4,_⟩:=hold_ _ _ hj
   rw [hx] at h2;obtain rfl:=Option.some.inj h2
   obtain ⟨y,k1,k2⟩:=lkh _ _ hj
   rw [hx] at k1;obtain rfl:=Option.some.inj k1
   obtain ⟨e1,e2⟩:=blke _ (hsn _ (List.mem_of_getElem? hj))
   have eq:10000 + (q - 10000) = q:=by omega
   rw [eq] at h3 h4
   exact ⟨k2,fun cs hc => e1.trans (h3 cs hc).2.symm,fun z e sh rows hc => e2.trans (h4 z e sh rows hc).2.symm⟩
 have ren0:∀ (u:Value) (x:AV),(flatC x = true∨Gc = g.G)→Rep0 w' g' (obOut news outs) u x→Rep0 w' g2 obR u (renC hs b x):=fun u x hf hx => by
  cases x with
  | ptr q off =>
   obtain ⟨⟨y,hy⟩,h2⟩:=hx
   obtain ⟨h3,h4,_⟩:=num q y hy
   refine ⟨⟨_,h3⟩,fun cs hc => ?_⟩
   rw [h3] at hc
   cases y with
   | box cs0 => rw [h2 cs0 hy,h4 cs0 rfl]
   | gone => simp [renO] at hc
   | row _ _ _ _ => simp [renO] at hc
  | own q =>
   obtain ⟨⟨y,hy⟩,h2⟩:=hx
   obtain ⟨h3,_,h4⟩:=num q y hy
   refine ⟨⟨_,h3⟩,fun z e sh rows hc => ?_⟩
   rw [h3] at hc
   cases y with
   | box cs0 => simp [renO] at hc
   | gone => simp [renO] at hc
   | row z' e' sh' rows' => rw [h2 _ _ _ _ hy,h4 _ _ _ _ rfl]
  | elo q i off => trivial
  | c cv =>
   rcases hf with hf | hf
   ·exact flat_cv hx (fun s r e => by subst e;simp [flatC] at hf)
   ·show RepC w' G2 u cv;rw [G2eq hf];exact hx
  | elp sh rows i off =>
   rcases hf with hf | hf
   ·simp [flatC] at hf
   ·show Rep0 w' g2 obR u (.elp sh rows i off)
    have e:g2.G = g'.G:=G2eq hf
    simp only [Rep0,e];exact hx
  | _ => exact hx
 have ren1':∀ (u:Value) (x:AV),(flat1 x = true∨Gc = g.G)→Rep1 w' g' (obOut news outs) u x→Rep1 w' g2 obR u (ren1 hs b x):=fun u x hf hx => by
  cases x with
  | agg cs =>
   obtain ⟨vs,h1,h2,h3⟩:=hx
   refine ⟨vs,h1,by simp [h2],fun k c hc => ?_⟩
   rw [List.getElem?_map,Option.map_eq_some_iff] at hc
   obtain ⟨c0,hc0,rfl⟩:=hc
   exact ren0 _ _ (hf.imp (fun h => List.all_eq_true.1 h c0 (List.mem_of_getElem? hc0)) id) (h3 k c0 hc0)
  | clo _ _ => exact ZC (x:=.dead) trivial
  | tup _ => exact hx
  | c _ => exact ZC (ren0 u (.c _) hf hx)
  | tt => exact ZC (ren0 u .tt hf hx)
  | ff => exact ZC (ren0 u .ff hf hx)
  | nil _ => exact ZC (ren0 u (.nil _) hf hx)
  | ptr _ _ => exact ZC (ren0 u (.ptr _ _) hf hx)
  | own _ => exact ZC (ren0 u (.own _) hf hx)
  | elp _ _ _ _ => exact ZC (ren0 u (.elp _ _ _ _) hf hx)
  | elo _ _ _ => exact ZC (x:=.dead) trivial
  | ifc _ => exact ZC (ren0 u (.ifc _) hf hx)
  | dead => exact ZC (ren0 u .dead hf hx)
 have hfA:(flatA r = true∨Gc = g.G)∧(∀ x∈news,flatO x = true∨Gc = g.G)∧(∀ x∈outs,flatO x = true∨Gc = g.G):=by
  rcases hfl with h | h
  ·simp only [ZdG,Bool.and_eq_true,List.all_eq_true] at h
   exact ⟨.inl h.1.1,fun x hx => .inl (h.1.2 x hx),fun x hx => .inl (h.2 x hx)⟩
  ·exact ⟨.inr h,fun _ _ => .inr h,fun _ _ => .inr h⟩
 have renr:Rep w' g2 obR v (renA hs b r):=by
  have hx:=hR.val
  have hf:=hfA.1
  cases r with
  | tup cs =>
   obtain ⟨vs,h1,h2,h3⟩:=hx
   refine ⟨vs,h1,by simp [h2],fun k c hc => ?_⟩
   rw [List.getElem?_map,Option.map_eq_some_iff] at hc
   obtain ⟨c0,hc0,rfl⟩:=hc
   exact ren1' _ _ (hf.imp (fun h => List.all_eq_true.1 h c0 (List.mem_of_getElem? hc0)) id) (h3 k c0 hc0)
  | agg _ => exact Z0p (ren1' v (.agg _) hf hx)
  | clo _ _ => exact Z0S (x:=.dead) trivial
  | c _ => exact Z0p (ren1' v (.c _) hf hx)
  | tt => exact Z0p (ren1' v .tt hf hx)
  | ff => exact Z0p (ren1' v .ff hf hx)
  | nil _ => exact Z0p (ren1' v (.nil _) hf hx)
  | ptr _ _ => exact Z0p (ren1' v (.ptr _ _) hf hx)
  | own _ => exact Z0p (ren1' v (.own _) hf hx)
  | elp _ _ _ _ => exact Z0p (ren1' v (.elp _ _ _ _) hf hx)
  | elo _ _ _ => exact Z0S (x:=.dead) trivial
  | ifc _ => exact Z0p (ren1' v (.ifc _) hf hx)
  | dead => exact Z0p (ren1' v .dead hf hx)
 have from_:∀ q x,obR q = some x→(∃ p y,obOut news outs p = some y∧q = numB hs b p∧x = renO hs b y∧(flatO y = true∨Gc = g.G))∨(q ∉ hs∧¬ (b≤q∧q < b + news.length)∧s.ob q = some x):=fun q x hx => by
  by_cases hq:q∈hs
  ·obtain ⟨j,hj⟩:=List.getElem?_of_mem hq
   obtain ⟨_,x',_,h2,h2',_⟩:=hold_ j q hj
   obtain ⟨y,k1,k2⟩:=lkh j q hj
   rw [h2] at k1;obtain rfl:=Option.some.inj k1
   rw [hx] at k2
   refine .inl ⟨10000 + j,x',h2',?_,Option.some.inj k2,hfA.2.2 x' (List.mem_of_getElem? h2)⟩
   unfold numB
   rw [if_neg (by omega),Nat.add_sub_cancel_left]
   simp [List.getD_eq_getElem?_getD,hj]
  ·by_cases hn:b≤q∧q < b + news.length
   ·have hlt:q - b < news.length:=by omega
    have:=lkn (q - b) _ (List.getElem?_eq_getElem hlt)
    rw [show b + (q - b) = q by omega,hx] at this
    by_cases hbig:q - b < 10000
    ·refine .inl ⟨q - b,news[q - b],?_,?_,Option.some.inj this,hfA.2.1 _ (List.getElem_mem hlt)⟩
     ·unfold obOut;rw [if_pos hbig];exact List.getElem?_eq_getElem hlt
     ·unfold numB;rw [if_pos hbig];omega
    ·omega
   ·rw [lke q hq hn] at hx
    exact .inr ⟨hq,hn,hx⟩
 have nblk:∀ p y,obOut news outs p = some y→obBlk g2 (numB hs b p) (renO hs b y) = obBlk g' p y:=fun p y hy => by
  obtain ⟨_,h1,h2⟩:=num p y hy
  cases y with
  | gone => rfl
  | box cs => simp [renO,obBlk,h1 cs rfl]
  | row z e sh rows => simp [renO,obBlk,h2 _ _ _ _ rfl]
 have oblk:∀ q x,¬ (b≤q∧q < b + news.length)→obBlk g2 q x = obBlk g q x:=fun q x hq => by
  obtain ⟨h1,h2⟩:=blke q hq
  cases x <;> simp [obBlk,h1,h2]
 have freshH:∀ k,H k→Bk gp obp k∨w0.heap.size≤k:=fun k hk => by
  obtain ⟨q,x,_,h1,h2⟩:=HB k hk
  exact hI.fresh q x k h1 h2
 rw [←hch] at hobR
 rw [hch] at hobR
 subst hobR
 refine ⟨g2,hI.change he hk renr (fun q x hx => ?_) (fun q q' x x' c h1 h2 h3 h4 => ?_) (fun q x c h1 h2 => ?_) (hI.grow.trans hR.grow freshH) (fun c hc hn => ?_) (fun c hc => ?_)⟩
 ·rcases from_ q x hx with ⟨p,y,hy,rfl,rfl,hf⟩ | ⟨hq,hn,hx'⟩
  ·have hrep:=hR.obs p y hy
   obtain ⟨_,h1,h2⟩:=num p y hy
   cases y with
   | gone => trivial
   | box cs =>
    obtain ⟨vs,e,h3,h4,h5,h6⟩:=hrep
    refine ⟨vs,e,by rw [h1 cs rfl];exact h3,by simp [h4],fun j c hc => ?_,?_⟩
    ·rw [List.getElem?_map,Option.map_eq_some_iff] at hc
     obtain ⟨c0,hc0,rfl⟩:=hc
     refine ⟨ren0 _ _ (hf.imp (fun h => List.all_eq_true.1 h c0 (List.mem_of_getElem? hc0)) id) (h5 j c0 hc0).1,?_⟩
     have:=(h5 j c0 hc0).2
     cases c0 <;> first | trivial | exact this
    ·rw [h1 cs rfl]
     show G2 (g'.blk p) = 0
     by_cases hc:g'.blk p < w.heap.size∧¬ H (g'.blk p)
     ·rcases hR.fresh p _ (g'.blk p) hy rfl with h | h
      ·exact absurd h hc.2
      ·omega
     ·rw [G2new _ hc];exact h6
   | row z e sh rows =>
    obtain ⟨cs,h3,h4,h5,h6⟩:=hrep
    have e2:=h2 _ _ _ _ rfl
    refine ⟨cs,by rw [e2];exact h3,h4,fun c hc => ?_,fun j row k cv hj hk' => ?_⟩
    ·rw [e2] at hc
     show G2 c = _
     by_cases hcc:c < w.heap.size∧¬ H c
     ·rcases hR.fresh p _ c hy hc with h | h
      ·exact absurd h hcc.2
      ·omega
     ·rw [G2new _ hcc];exact h5 c hc
    ·obtain ⟨u,hu,hr⟩:=h6 j row k cv hj hk'
     refine ⟨u,hu,?_⟩
     rcases hf with hf | hf
     ·refine flat_cv hr (fun s' r' e' => ?_)
      subst e'
      have hsh:=h4 row (List.mem_of_getElem? hj)
      have h7:sh[k]? = some (.sl s'):=by rw [←hsh,List.getElem?_map,hk'];rfl
      have:=List.all_eq_true.1 hf _ (List.mem_of_getElem? h7)
      simp [flatS] at this
     ·show RepC w' G2 u cv;rw [G2eq hf];exact hr
  ·obtain ⟨e1,e2⟩:=blke q hn
   refine RepOb.keep (g':=g2) he hk (hI.obs q x hx') (fun c hc => ?_) e1 e2
   have hcl:=hI.obs_lt hx' hc
   have hnH:¬ H c:=fun h => hq (HB' q x c hx' hc h)
   exact ⟨hR.grow.block c hcl hnH,G2same c hcl hnH⟩
 ·rcases from_ q x h1 with ⟨p,y,hy,rfl,rfl,_⟩ | ⟨hq,hn,hx⟩ <;> rcases from_ q' x' h2 with ⟨p',y',hy',rfl,rfl,_⟩ | ⟨hq',hn',hx'⟩
  ·rw [nblk p y hy] at h3;rw [nblk p' y' hy'] at h4
   rw [hR.inj p p' y y' c hy hy' h3 h4]
  ·exfalso
   rw [nblk p y hy] at h3
   rw [oblk q' x' hn'] at h4
   have:=hI.obs_lt hx' h4
   rcases hR.fresh p y c hy h3 with h | h
   ·exact hq' (HB' q' x' c hx' h4 h)
   ·omega
  ·exfalso
   rw [nblk p' y' hy'] at h4
   rw [oblk q x hn] at h3
   have:=hI.obs_lt hx h3
   rcases hR.fresh p' y' c hy' h4 with h | h
   ·exact hq (HB' q x c hx h3 h)
   ·omega
  ·rw [oblk q x hn] at h3;rw [oblk q' x' hn'] at h4
   exact hI.inj q q' x x' c hx hx' h3 h4
 ·rcases from_ q x h1 with ⟨p,y,hy,rfl,rfl,_⟩ | ⟨hq,hn,hx⟩
  ·rw [nblk p y hy] at h2
   rcases hR.fresh p y c hy h2 with h | h
   ·exact freshH c h
   ·right;omega
  ·rw [oblk q x hn] at h2
   exact hI.fresh q x c hx h2
 ·show G2 c = g.G c
  exact G2same c (by omega) (fun h => by rcases freshH c h with h | h;exact hn h;omega)
 ·show G2 c = 0
  rw [G2new c (fun h => by omega)]
  exact hR.gz c hc
end
end Go.Ev
