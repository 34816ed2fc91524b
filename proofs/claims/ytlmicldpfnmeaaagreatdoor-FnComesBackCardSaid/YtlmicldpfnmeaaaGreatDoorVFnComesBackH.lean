/- Calls of library functions at this program. No conditions but those that each statement names. By this repo's programs; comments are taken out. -/
import Derived.Shelf.Strconv.Itoa3
import Derived.Lib.Bytealg
import Derived.Below
import Derived.Deep.Draws
import Derived.Deep.AppendLies
import Derived.Maps.AppendAt
import Derived.OwnWalk
import Derived.Laws.BytesArg
import Derived.Laws.MakeOwn
import Derived.Laws.OwnMore
import Derived.Deep.OwnRows
import Derived.Tactics
import Derived.Lib.ConvBytes
import Derived.Laws.Slices
import Derived.WalkKit
import Derived.KernelRfl
import Derived.RowKit3
import Derived.Deep.LoopGhost
import Derived.Deep.QuietTactic
import Derived.BigQuiet
import Derived.WideLaws
import Derived.Deep.DeepCutAuto
import Derived.Deep.CutBlock
import Derived.Deep.RegionHeld3
import Derived.Laws.Rows
import Derived.Lib.AppendStr
import Derived.ArgAppend
import Derived.Laws.IdiomCopy
import Derived.OrdersHeld
import Derived.Laws.BitsLemmas
import Derived.RowKit
import Derived.Laws.Cover1
import Derived.Deep.RegionLaw
import Derived.Shelf.RegionOpenPlain
import Derived.Lib.SliceRun
import Derived.Lib.Walk
import Derived.Lib.AppendZerosOnto
import Derived.Lib.Overlaps
import Derived.Shelf.LaysM
import Derived.Lib.AppendIntMem
import Derived.Test.YtlmicldpfnmeaaaGreatDoorProg
import Derived.Shelf.Strconv.Atoi
import Derived.Shelf.Strconv.AtoiErr
import Derived.Test.YtlmicldpfnmeaaaGreatDoorVFnComesBackEd
import Derived.Test.YtlmicldpfnmeaaaGreatDoorVFnComesBackW
set_option linter.all false
namespace Go.Eb
open Go.RowKit Go.Proofs Go.Proofs.YtlmicldpfnmeaaaGreatDoorW.PrintWords Go.Proofs.YtlmicldpfnmeaaaGreatDoorW.PrintLast Go.Proofs.YtlmicldpfnmeaaaGreatDoorW.PrintMore
section flat
variable {α:Type} {enc:α→List Value} {sz:Nat}
def flat (enc:α→List Value):List α→List Value
 | [] => []
 | x::r => enc x++flat enc r
theorem Z1t (h:∀ x,(enc x).length = sz) (xs:List α):(flat enc xs).length = xs.length * sz:=by
 induction xs with
 | nil => simp [flat]
 | cons x r ih => simp [flat,ih,h,Nat.add_mul,Nat.add_comm]
theorem Z5r (a b:List α):flat enc (a++b) = flat enc a++flat enc b:=by
 induction a with
 | nil => simp [flat]
 | cons x r ih => simp [flat,ih]
theorem Z6C (h:∀ x,(enc x).length = sz) (xs:List α) (i:Nat) (hi:i≤xs.length):(flat enc xs).take (i * sz) = flat enc (xs.take i):=by
 have e:flat enc xs = flat enc (xs.take i)++flat enc (xs.drop i):=by rw [←Z5r,List.take_append_drop]
 have l:(flat enc (xs.take i)).length = i * sz:=by rw [Z1t h,List.length_take,Nat.min_eq_left hi]
 rw [e,←l,List.take_left]
theorem Z5c (h:∀ x,(enc x).length = sz) (xs:List α) (i:Nat) (hi:i≤xs.length):(flat enc xs).drop (i * sz) = flat enc (xs.drop i):=by
 have e:flat enc xs = flat enc (xs.take i)++flat enc (xs.drop i):=by rw [←Z5r,List.take_append_drop]
 have l:(flat enc (xs.take i)).length = i * sz:=by rw [Z1t h,List.length_take,Nat.min_eq_left hi]
 rw [e,←l,List.drop_left]
theorem Z6U (h1:∀ x,∀ u∈enc x,u.oneCell' = true) (xs:List α):∀ u∈flat enc xs,u.oneCell' = true:=by
 induction xs with
 | nil => simp [flat]
 | cons x r ih =>
  intro u hu
  rcases List.mem_append.1 hu with hu | hu
  ·exact h1 x u hu
  ·exact ih u hu
theorem reps_flat {R:α→List Value→Prop} (h:∀ x,(enc x).length = sz) (ho:∀ x cs,R x cs→cs = enc x):∀ (xs:List α) (cs:List Value),Reps R sz xs cs→cs = flat enc xs
 | [],cs,hr => List.eq_nil_of_length_eq_zero (by simpa using hr.1)
 | x::r,cs,hr => by
  have h0:=ho _ _ (hr.2 0 x rfl)
  simp only [Nat.zero_mul,List.drop_zero] at h0
  have hl:=hr.1
  have ht:Reps R sz r (cs.drop sz):=by
   refine ⟨by rw [List.length_drop,hl,List.length_cons,Nat.add_mul,Nat.one_mul,Nat.add_sub_cancel],fun j p hj => ?_⟩
   have:=hr.2 (j + 1) p (by simpa using hj)
   rw [List.drop_drop,show sz + j * sz = (j + 1) * sz by rw [Nat.add_mul,Nat.one_mul,Nat.add_comm]]
   exact this
  rw [flat,←reps_flat h ho r _ ht,←h0,List.take_append_drop]
theorem flat_reps {R:α→List Value→Prop} (h:∀ x,(enc x).length = sz) (hm:∀ x,R x (enc x)) (xs:List α):Reps R sz xs (flat enc xs):=by
 refine ⟨Z1t h xs,fun j p hj => ?_⟩
 obtain ⟨hj1,hj2⟩:=List.getElem?_eq_some_iff.1 hj
 rw [Z5c h xs j (by omega),List.drop_eq_getElem_cons hj1,hj2,flat,←h p,List.take_left]
 exact hm p
end flat
structure Flat {α:Type} (d:Kd α) (enc:α→List Value):Prop where
 len:∀ x,(enc x).length = d.sz
 pos:0 < d.sz
 one:∀ x,∀ u∈enc x,u.oneCell' = true
 op:∀ w base ok x cs,d.M w base ok x cs→cs = enc x
 mkk:∀ w base ok x,d.M w base ok x (enc x)
theorem R_open {α:Type} {d:Kd α} {enc:α→List Value} {e base:Nat} {W:World} {ok:Nat→Prop} {v:Value} {xs:List α} (F:Flat d enc) (h:d.R e W base ok v xs) :
  (∀ k,v.ownBlock = some k→ok k)∧W.ownsRow base e d.sz v xs.length (flat enc xs):=by
 obtain ⟨h0,inner,h1,h2⟩:=h
 exact ⟨h0,by rw [←reps_flat F.len (F.op _ _ _) xs inner h2];exact h1⟩
theorem R_close {α:Type} {d:Kd α} {enc:α→List Value} {e base:Nat} {W:World} {ok:Nat→Prop} {v:Value} {xs:List α} (F:Flat d enc) (h0:∀ k,v.ownBlock = some k→ok k) (h1:W.ownsRow base e d.sz v xs.length (flat enc xs)):d.R e W base ok v xs :=
 ⟨h0,_,h1,flat_reps F.len (F.mkk _ _ _) xs⟩
theorem own_blk {w:World} {base:Nat} {e:TypeId} {size n:Nat} {v:Value} {xs:List Value} (h:w.ownsRow base e size v n xs) (hn:0 < n) :
  ∃ g cap cur,v = .slice (some ⟨g,0,none⟩) n cap∧base≤g∧w.heap[g]? = some (.cells cur e (0,0))∧n≤cap∧cap≤maxLen∧cur.size = cap * size∧cur.toList.take (n * size) = xs:=by
 rcases h.2 with ⟨_,h0⟩ | ⟨g,cap,cur,a,b,c,d,e',f,g'⟩
 ·omega
 ·exact ⟨g,cap,cur,a,b,c,d,e',f,g'⟩
theorem Z6D {w:World} {g:Nat} {t:TypeId} {cur:Array Value} (h:w.heap[g]? = some (.cells cur t (0,0))) (o n:Nat) (ho:o + n≤cur.size) :
  ∀ j u,((cur.toList.drop o).take n)[j]? = some u→w.cell? ⟨g,o + j,none⟩ = some u:=by
 intro j u hu
 rw [Z4E h]
 rw [List.getElem?_take] at hu
 split at hu
 ·rw [List.getElem?_drop,Array.getElem?_toList] at hu;exact hu
 ·cases hu
theorem blk_some {w:World} {g:Nat} {t:TypeId} {cur:Array Value} (h:w.heap[g]? = some (.cells cur t (0,0))) {o n:Nat} (ho:o + n≤cur.size):∀ j,j < n→(w.cell? ⟨g,o + j,none⟩).isSome = true:=by
 intro j hj
 rw [Z4E h]
 simp only [Array.getElem?_eq_getElem (show o + j < cur.size by omega),Option.isSome_some]
theorem Z2w {P:Program} (w:World) (dT sT ty elem:TypeId) (size:Nat) (g o dLen dCap:Nat) (a:Addr) (sLen sCap:Nat) (cur:Array Value) (t:TypeId) (cs:List Value)
  (hu:P.underlying dT = some (.slice elem)) (hs:(P.info? elem).map (·.size) = some size)
  (hg:w.heap[g]? = some (.cells cur t (0,0))) (m:Nat) (hm:Nat.min sLen dLen = m) (hn:cs.length = m * size)
  (hsrc:∀ j v,cs[j]? = some v→w.cell? (a.add j) = some v) (hfit:o + cs.length≤cur.size) (h1:∀ v∈cs,v.oneCell' = true) :
  (Builtin.copy_ #[dT,sT] ty #[.slice (some ⟨g,o,none⟩) dLen dCap,.slice (some a) sLen sCap]).run P w = .ok (goInt m) (w.setCells g o cs):=by
 subst hm
 have hl:=run_firstCells_some (P:=P) w size (Nat.min sLen dLen) a sLen sCap cs hn hsrc
 have hst:=run_storeCells_cells (P:=P) g o cs 0 w (by simpa using blk_some hg hfit) (fun _ _ => Z3G hg _) h1
 cases hq:P.info? elem with
 | none => simp [hq] at hs
 | some i =>
  have hi:i.size = size:=by simpa [hq] using hs
  simp only [Nat.add_zero] at hst
  simp [Builtin.copy_,run_underlying hu,Builtin.lenOf,sizeOf,typeInfo,hq,hi,hl,hst]
theorem Z7p {P:Program} (w:World) (dT ty elem:TypeId) (z:Value) (i:TypeInfo) (g o n c:Nat) (cur:Array Value) (t:TypeId) (cs:List Value)
  (hu:P.underlying dT = some (.slice elem)) (hi:P.info? elem = some i) (hz:i.zero = some z) (hn:0 < n) (hcs:cs = (Builtin.zeroCells z.cells n).toList)
  (hg:w.heap[g]? = some (.cells cur t (0,0))) (hfit:o + n * z.cells.size≤cur.size) (h1:∀ v∈z.cells.toList,v.oneCell' = true) :
  (Builtin.clear_ #[dT] ty #[.slice (some ⟨g,o,none⟩) n c]).run P w = .ok (.tuple #[]) (w.setCells g o cs):=by
 have hlen:cs.length = n * z.cells.size:=by rw [hcs,Array.length_toList,size_zeroCells]
 have h1':∀ v∈cs,v.oneCell' = true:=by
  rw [hcs]
  intro v hv
  rw [Array.mem_toList_iff] at hv
  unfold Builtin.zeroCells at hv
  simp only [Array.mem_map,Array.mem_range] at hv
  obtain ⟨q,hq,rfl⟩:=hv
  have hp:0 < z.cells.size:=Nat.pos_of_ne_zero (fun h0 => by rw [h0] at hq;simp at hq)
  have hlt:=Nat.mod_lt q hp
  rw [getElem!_pos z.cells _ hlt]
  exact h1 _ (by rw [Array.mem_toList_iff];exact Array.getElem_mem hlt)
 have hst:=run_storeCells_cells (P:=P) g o cs 0 w (by simpa using blk_some hg (by omega)) (fun _ _ => Z3G hg _) h1'
 obtain ⟨m,rfl⟩:∃ m,n = m + 1:=⟨n - 1,by omega⟩
 simp only [Nat.add_zero] at hst
 rw [hcs] at hst ⊢
 simp [Builtin.clear_,run_underlying hu,zeroValue,typeInfo,hi,hz,hst]
def Z08 {α:Type} (cf:α→Int) (xs:List α):Nat:=xs.countP (fun x => decide (cf x < 0))
theorem Z6u {α:Type} (cf:α→Int) (xs:List α):Z08 cf xs≤xs.length:=List.countP_le_length
theorem Z5Q {α:Type} (cf:α→Int):∀ (l:List α) (i:Nat),i≤l.length→(∀ t x,t < i→l[t]? = some x→cf x < 0)→(∀ t x,i≤t→l[t]? = some x→0≤cf x)→Z08 cf l = i
 | [],i,hi,_,_ => by simp at hi;simp [hi,Z08]
 | a::r,0,_,_,h2 => by
  unfold Z08
  rw [List.countP_eq_zero]
  intro x hx
  obtain ⟨t,ht,rfl⟩:=List.getElem_of_mem hx
  have:=h2 t _ (Nat.zero_le _) (List.getElem?_eq_getElem ht)
  simp;omega
 | a::r,i + 1,hi,h1,h2 => by
  have ha:=h1 0 a (Nat.succ_pos _) rfl
  have ih:=Z5Q cf r i (by simpa using hi) (fun t x ht hx => h1 (t + 1) x (by omega) (by simpa using hx)) (fun t x h3 hx => h2 (t + 1) x (by omega) (by simpa using hx))
  unfold Z08 at ih ⊢
  rw [List.countP_cons_of_pos (by simpa using ha),ih]
def stands {α:Type} (cf:α→Int) (xs:List α):Bool:=match xs[Z08 cf xs]? with | some x => decide (cf x = 0) | none => false
section
variable {P:Program} {ops:Array Oper} {rest:List Oper} {o:Oper} {a:Act} {Q:Exit→Act→World→Prop} {W:World}
theorem Z5L (hgd:o.guard = none) (s x:Operand) (t1 t2:TypeId) (ho:o.op = .call { callee:=.builtin .append,args:=#[s,x],argTypes:=#[t1,t2] }) {v u v1:Value} {w1:World} (hs:a.eval s = v) (hx:a.eval x = u)
  (hr:(Builtin.append_ #[t1,t2] o.type #[v,u]).run P W = .ok v1 w1) (h:wpList P ops Q rest (a.put o.dst v1) w1):wpList P ops Q (o::rest) a W :=
 wpList_plain hgd fun K hK => by
  unfold Oper.wp execOp
  simp only [ho,resolve,invoke,builtin,Sem.run_bind,Sem.run_pure,Result.andThen_ok,List.map_toArray,List.map_cons,List.map_nil,hs,hx,hr]
  exact hK _ _ h
theorem Zdi (hgd:o.guard = none) (s x:Operand) (t1 t2:TypeId) (ho:o.op = .call { callee:=.builtin .copy,args:=#[s,x],argTypes:=#[t1,t2] }) {v u v1:Value} {w1:World} (hs:a.eval s = v) (hx:a.eval x = u)
  (hr:(Builtin.copy_ #[t1,t2] o.type #[v,u]).run P W = .ok v1 w1) (h:wpList P ops Q rest (a.put o.dst v1) w1):wpList P ops Q (o::rest) a W :=
 wpList_plain hgd fun K hK => by
  unfold Oper.wp execOp
  simp only [ho,resolve,invoke,builtin,Sem.run_bind,Sem.run_pure,Result.andThen_ok,List.map_toArray,List.map_cons,List.map_nil,hs,hx,hr]
  exact hK _ _ h
theorem Z8h {K:Act→World→Prop} {E:Prop} (hg:o.guard = none) (s x:Operand) (t1 t2:TypeId) (hop:o.op = .call { callee:=.builtin .copy,args:=#[s,x],argTypes:=#[t1,t2] }) {v u v1:Value} {w1:World} (hs:a.eval s = v) (hx:a.eval x = u)
  (hr:(Builtin.copy_ #[t1,t2] o.type #[v,u]).run P W = .ok v1 w1) (hK:K (a.put o.dst v1) w1):if Region.wanted o (yielded ops a.tmps) = true then Oper.wp P o a W K Q else E:=by
 have hw:Region.wanted o (yielded ops a.tmps) = true:=by simp [Region.wanted,hg]
 rw [if_pos hw]
 unfold Oper.wp
 simp [execOp,hop,resolve,invoke,builtin,hs,hx,hr,Result.andThen]
 exact hK
end
theorem mid_cells {α:Type} {enc:α→List Value} {k n i:Nat} {xs:List α} {x:α} {cur cur1 cur2:List Value} (HL:∀ x,(enc x).length = k) (hn:xs.length = n) (hi:i < n) (htk:cur.take (n * k) = flat enc xs) (hfit:(n + 1) * k≤cur.length)
  (h1:cur1 = cur.take ((i + 1) * k)++flat enc (xs.drop i)++cur.drop ((i + 1) * k + (flat enc (xs.drop i)).length)) (h2:cur2 = cur1.take (i * k)++enc x++cur1.drop (i * k + (enc x).length)) :
  cur2.take ((n + 1) * k) = flat enc (xs.take i++x::xs.drop i):=by
 have l1:(flat enc (xs.drop i)).length = (n - i) * k:=by rw [Z1t HL,List.length_drop,hn]
 have e1:(i + 1) * k + (n - i) * k = (n + 1) * k:=by rw [←Nat.add_mul];congr 1;omega
 have e2:(i + 1) * k = i * k + k:=by rw [Nat.add_mul,Nat.one_mul]
 have e3:i * k + (n - i) * k = n * k:=by rw [←Nat.add_mul];congr 1;omega
 have l2:(cur.take ((i + 1) * k)).length = (i + 1) * k:=by rw [List.length_take];omega
 have t1:cur1.take (i * k) = flat enc (xs.take i):=by
  rw [h1,List.append_assoc,List.take_append_of_le_length (by omega),List.take_take,Nat.min_eq_left (by omega),←Z6C HL xs i (by omega),←htk,List.take_take,Nat.min_eq_left (by omega)]
 have t2:cur1.drop (i * k + (enc x).length) = flat enc (xs.drop i)++cur.drop ((i + 1) * k + (flat enc (xs.drop i)).length):=by
  rw [HL,←e2,h1,List.append_assoc,List.drop_append_of_le_length (by omega),List.drop_eq_nil_of_le (by omega),List.nil_append]
 have l3:(flat enc (xs.take i)).length = i * k:=by rw [Z1t HL,List.length_take,Nat.min_eq_left (by omega)]
 rw [h2,t1,t2,Z5r,flat,←List.append_assoc,←List.append_assoc]
 rw [List.take_append_of_le_length (by simp only [List.length_append,l3,l1,HL];omega),List.take_of_length_le (by simp only [List.length_append,l3,l1,HL];omega),List.append_assoc]
theorem ZcO {α:Type} {enc:α→List Value} {k n i:Nat} {xs:List α} {x:α} {cur cur1 cur2:List Value} (HL:∀ x,(enc x).length = k) (hn:xs.length = n) (hi:i < n) (htk:cur.take (i * k) = flat enc (xs.take i)) (hfit:(n + 1) * k≤cur.length)
  (h1:cur1 = cur.take (i * k)++enc x++cur.drop (i * k + (enc x).length)) (h2:cur2 = cur1.take ((i + 1) * k)++flat enc (xs.drop i)++cur1.drop ((i + 1) * k + (flat enc (xs.drop i)).length)) :
  cur2.take ((n + 1) * k) = flat enc (xs.take i++x::xs.drop i):=by
 have l1:(flat enc (xs.drop i)).length = (n - i) * k:=by rw [Z1t HL,List.length_drop,hn]
 have e1:(i + 1) * k + (n - i) * k = (n + 1) * k:=by rw [←Nat.add_mul];congr 1;omega
 have e2:(i + 1) * k = i * k + k:=by rw [Nat.add_mul,Nat.one_mul]
 have l3:(flat enc (xs.take i)).length = i * k:=by rw [Z1t HL,List.length_take,Nat.min_eq_left (by omega)]
 have t1:cur1.take ((i + 1) * k) = flat enc (xs.take i)++enc x:=by
  rw [h1,htk,List.take_append_of_le_length (by rw [List.length_append,l3,HL];omega),List.take_of_length_le (by rw [List.length_append,l3,HL];omega)]
 rw [h2,t1,Z5r,flat,List.take_append_of_le_length (by simp only [List.length_append,l3,l1,HL];omega),List.take_of_length_le (by simp only [List.length_append,l3,l1,HL];omega),List.append_assoc]
set_option maxHeartbeats 4000000 in
set_option maxRecDepth 1000000 in
theorem del_calls145 {α:Type} {d:Kd α} {enc:α→List Value} (F:Flat d enc) (hk:d.sz = 4) (i0:TypeInfo) (z:Value) (hi0:Tryz.prog.info? 145 = some i0) (hz0:i0.zero = some z) (hz1:i0.size = 4) (hz2:z.cells.size = 4) (hzo:∀ u∈z.cells.toList,u.oneCell' = true)
  (W:World) (base:Nat) (ok:Nat→Prop) (v:Value) (A:Option Addr) (c:Nat) (xs:List α) (i:Nat) (hv:v = .slice A xs.length c) (h:d.R 145 W base ok v xs) (hi:i < xs.length) :
  Calls Tryz.prog 169 #[v,.int .i64 i,.int .i64 ((i:Int) + 1)] W fun e w' => ∃ v',e = .returned v'∧d.R 145 w' base ok v' (xs.take i++xs.drop (i + 1))∧W.grownBy w' v.ownBlock∧v'.ownBlock = v.ownBlock:=by
 obtain ⟨h0,ho⟩:=R_open F h
 rw [hk] at ho
 have HL:∀ x,(enc x).length = 4:=fun x => (F.len x).trans hk
 obtain ⟨g,cap,cur,hvg,hbg,hg,hnc,hcm,hcs,htk⟩:=own_blk ho (by omega)
 subst hvg
 unfold maxLen at hcm
 have hu:=Tryz.underlying40
 obtain ⟨news,hnews⟩:∃ news,news = flat enc (xs.drop (i + 1)):=⟨_,rfl⟩
 have hlen:news.length = (xs.length - (i + 1)) * 4:=by rw [hnews,Z1t HL,List.length_drop]
 have hfull:(xs.length - (i + 1)) * 4 + (i + 1) * 4 = xs.length * 4:=by rw [←Nat.add_mul];congr 1;omega
 have hle:xs.length * 4≤cur.size:=by rw [hcs];exact Nat.mul_le_mul_right _ hnc
 have hmid:news = (cur.toList.drop ((i + 1) * 4)).take ((xs.length - (i + 1)) * 4):=by
  rw [hnews,←Z5c HL xs (i + 1) (by omega),←htk,List.drop_take,show xs.length * 4 - (i + 1) * 4 = (xs.length - (i + 1)) * 4 by omega]
 obtain ⟨A,hA,hsrc⟩:∃ A:Addr,(if cap = i + 1 then some (⟨g,0,none⟩:Addr) else some ⟨g,(i + 1) * 4,none⟩) = some A∧Hid (∀ t u,news[t]? = some u→W.drew.cell? (A.add t) = some u):=by
  by_cases hc:cap = i + 1
  ·refine ⟨⟨g,0,none⟩,by simp [hc],fun t u hu => ?_⟩
   have h0:news.length = 0:=by rw [hlen,show xs.length - (i + 1) = 0 by omega,Nat.zero_mul]
   rw [List.length_eq_zero_iff.1 h0] at hu
   simp at hu
  ·refine ⟨⟨g,(i + 1) * 4,none⟩,by simp [hc],fun t u hu => ?_⟩
   rw [Z4K]
   rw [hmid] at hu
   have:=Z6D hg ((i + 1) * 4) ((xs.length - (i + 1)) * 4) (by omega) t u hu
   exact this
 have s1:Hid (news.length = (xs.length - (i + 1)) * 4):=hlen
 have s2:Hid (∀ u∈news,u.oneCell' = true):=by rw [hnews];exact Z6U F.one _
 have hfit:i * 4 + news.length + 4≤cur.size:=by
  rw [hlen]
  have:(i + 1) * 4 = i * 4 + 4:=by rw [Nat.add_mul,Nat.one_mul]
  omega
 have s3:Hid (∀ t,t < news.length→(W.drew.cell? ⟨g,0 + i * 4 + t,none⟩).isSome = true∧W.drew.frozen? ⟨g,0 + i * 4 + t,none⟩ = false):=by
  intro t ht
  refine ⟨?_,Z3G hg _⟩
  show (W.cell? _).isSome = true
  rw [Z4E hg,Nat.zero_add]
  simp only [Array.getElem?_eq_getElem (show i * 4 + t < cur.size by omega),Option.isSome_some]
 obtain ⟨W1,hW1⟩:∃ W1,W1 = W.drew.setCells g (0 + i * 4) news:=⟨_,rfl⟩
 obtain ⟨cur1,hg1,hc1,ht1⟩:=Z1o news (0 + i * 4) W.drew cur hg (by omega)
 rw [←hW1] at hg1
 obtain ⟨zs,hzs⟩:∃ zs,zs = (Builtin.zeroCells z.cells 1).toList:=⟨_,rfl⟩
 have hzl:zs.length = 4:=by rw [hzs,Array.length_toList,size_zeroCells,Nat.one_mul,hz2]
 have hbk:i + (xs.length - (i + 1)) = xs.length - 1:=by omega
 have hfit2:(xs.length - 1) * 4 + 1 * z.cells.size≤cur1.size:=by
  rw [hc1,hz2,Nat.one_mul]
  have:(xs.length - 1) * 4 + 4 = xs.length * 4:=by rw [←Nat.succ_mul];congr 1;omega
  omega
 have hcl:∀ ty,(Builtin.clear_ #[40] ty #[.slice (some ⟨g,(xs.length - 1) * 4,none⟩) (xs.length - (xs.length - 1)) (cap - (xs.length - 1))]).run Tryz.prog W1 = .ok (.tuple #[]) (W1.setCells g ((xs.length - 1) * 4) zs):=fun ty => by
  rw [show xs.length - (xs.length - 1) = 1 by omega]
  exact Z7p W1 40 ty 145 z i0 g _ 1 _ cur1 145 zs hu hi0 hz0 (by omega) hzs hg1 hfit2 hzo
 obtain ⟨cur2,hg2,hc2,ht2⟩:=Z1o zs ((xs.length - 1) * 4) W1 cur1 hg1 (by rw [hz2] at hfit2;omega)
 have K:Aside0 (W1 = W.drew.setCells g (0 + i * 4) news):=⟨hW1⟩
 have X:Aside0 ((W1.setCells g ((xs.length - 1) * 4) zs).heap[g]? = some (.cells cur2 145 (0,0))∧cur2.size = cap * 4∧cur2.toList.take ((xs.length - 1) * 4) = flat enc (xs.take i++xs.drop (i + 1))):=by
  refine ⟨hg2,by rw [hc2,hc1,hcs],?_⟩
  have hp:i * 4 + news.length = (xs.length - 1) * 4:=by omega
  have hq:(cur.toList.take (i * 4)).length = i * 4:=by rw [List.length_take,Array.length_toList (xs:=cur)];omega
  rw [ht2,List.append_assoc,List.take_append_of_le_length (by rw [List.length_take,Array.length_toList (xs:=cur1)];omega),List.take_take,Nat.min_self,ht1,Nat.zero_add,
   List.take_append_of_le_length (by rw [List.length_append,hq];omega),List.take_of_length_le (by rw [List.length_append,hq];omega),Z5r,←hnews,←Z6C HL xs i (by omega),←htk,List.take_take]
  congr 2
  omega
 have HF:Aside0 (Flat d enc):=⟨F⟩
 have hic:i≤cap:=by omega
 have hjc:i + 1≤cap:=by omega
 have hip:(0:Int)≤(i:Int) + 1:=by omega
 have Z:Aside0 (zs.length = 4):=⟨hzl⟩
 clear hzs hzo hz0 hz2 hzl hfit2
 have hin:(i:Int) + 1≤(xs.length:Int):=by omega
 clear ht1 hg1 hW1 hmid hnews ht2 hg2 htk F h ho hlen hg
 go_enter Tryz.func169,Tryz.ntmps169
 go_wp2_with fail
 go_region_law (refine step_append_room rfl (.tmp 22) (.tmp 25) 40 rfl 145 i0 4 hu hi0 hz1 g 0 i c (by simp [Act.eval,Act.put]) A (xs.length - (i + 1)) (c - (i + 1)) news (by simp [Act.eval,Act.put]) s1.out hsrc.out s2.out (by omega) s3.out ?_;rw [←K.out])
 go_wp2
 go_ret
 refine ⟨_,rfl,R_close HF.out h0 ?_,?_,rfl⟩
 ·rw [hk]
  have hl:(xs.take i++xs.drop (i + 1)).length = xs.length - 1:=by rw [List.length_append,List.length_take,List.length_drop];omega
  rw [hl]
  exact ⟨by rw [Z1t HL,hl],.inr ⟨g,c,cur2,rfl,hbg,X.out.1,by omega,by unfold maxLen;omega,X.out.2.1,X.out.2.2⟩⟩
 ·rw [K.out]
  obtain ⟨a1,a2,a3,a4⟩:=Z14 g news (0 + i * 4) W.drew
  obtain ⟨b1,b2,b3,b4⟩:=Z14 g zs ((xs.length - 1) * 4) (W.drew.setCells g (0 + i * 4) news)
  refine ⟨b1.trans a1,b2.trans a2,b3.trans a3,?_,fun k _ hne => ?_⟩
  ·rw [b4,a4];exact Nat.le_refl _
  ·have hkg:k≠g:=fun he => hne (by rw [he];rfl)
   rw [Z0J _ _ _ hkg,Z0J _ _ _ hkg]
   rfl
set_option maxHeartbeats 4000000 in
set_option maxRecDepth 1000000 in
theorem ins_end145 {α:Type} {d:Kd α} {enc:α→List Value} (F:Flat d enc) (hk:d.sz = 4) (i0:TypeInfo) (z:Value) (hi0:Tryz.prog.info? 145 = some i0) (hz0:i0.zero = some z) (hz1:i0.size = 4) (hz2:z.cells.size = 4) (hby:i0.bytes = 40)
  (W:World) (base:Nat) (ok:Nat→Prop) (A:Option Addr) (c:Nat) (xs:List α) (x:α) (vb vc:Nat) (VC:Array Value) (h:d.R 145 W base ok (.slice A xs.length c) xs) (hvb:W.heap[vb]? = some (.cells VC 145 (0,0))) (hvt:∀ (j:Nat) (u:Value),(enc x)[j]? = some u→VC[j]? = some u) (hvs:4≤VC.size) (hbase:base≤W.heap.size) (hok:∀ k,W.heap.size≤k→ok k) (hbig:(xs.length + 1) * 40≤140737488355328) :
  Calls Tryz.prog 170 #[.slice A xs.length c,.int .i64 xs.length,.slice (some ⟨vb,0,none⟩) 1 vc] W fun e w' => ∃ v',e = .returned v'∧d.R 145 w' base ok v' (xs++[x])∧W.grownBy w' (Value.slice A xs.length c).ownBlock∧(v'.ownBlock = (Value.slice A xs.length c).ownBlock∨∃ b,v'.ownBlock = some b∧W.heap.size≤b):=by
 obtain ⟨h0,ho⟩:=R_open F h
 rw [hk] at ho
 have HL:∀ x,(enc x).length = 4:=fun x => (F.len x).trans hk
 have hu:=Tryz.underlying40
 have hlen:xs.length + 1≤140737488355328:=by omega
 have hrd:∀ j u,(enc x)[j]? = some u→W.cell? ((⟨vb,0,none⟩:Addr).add j) = some u:=fun j u hu => by
  rw [Z4K,Nat.zero_add,Z4E hvb]
  exact hvt j u hu
 obtain ⟨v1,w1,hrun,hown1,hg1,-,hat1⟩:=run_append_own_at (P:=Tryz.prog) W base 40 40 145 i0 z 4 40 hu hi0 hz0 hz1 hby hz2 (by omega) (.slice A xs.length c) xs.length (flat enc xs) ho ⟨vb,0,none⟩ 1 vc (enc x) (by rw [HL]) hrd (F.one x) (by simp only [maxLen];omega) hbig hbase
 have HR:Aside0 ((Builtin.append_ #[40,40] 40 #[.slice A xs.length c,.slice (some ⟨vb,0,none⟩) 1 vc]).run Tryz.prog W = .ok v1 w1):=⟨hrun⟩
 have R1:Aside0 (d.R 145 w1 base ok v1 (xs++[x])):=⟨R_close F (fun k e => by
   rcases hat1 with hat | hat
   ·exact h0 k (hat ▸ e)
   ·rw [hat] at e;injection e with e;exact hok k (by omega)) (by rw [hk,Z5r,List.length_append];simpa [flat] using hown1)⟩
 have G1:Aside0 (W.grownBy w1 (Value.slice A xs.length c).ownBlock):=⟨hg1⟩
 have A1:Aside0 (v1.ownBlock = (Value.slice A xs.length c).ownBlock∨∃ b,v1.ownBlock = some b∧W.heap.size≤b):=⟨hat1.imp_right fun e => ⟨_,e,Nat.le_refl _⟩⟩
 have hnc:xs.length≤c:=(Kd.R_reads' h).2.1
 clear hrun hown1 hg1 hat1 hrd h0 ho h hok F hvb hvt hvs
 have hz3:¬ ((1:Int) = 0):=by omega
 have hcx:c = xs.length∨¬ c = xs.length:=Classical.em _
 rcases hcx with rfl | hcx
 all_goals
  go_enter Tryz.func170,Tryz.ntmps170
  go_wp2_with (at_builtin;refine Z5L rfl _ _ 40 40 rfl rfl rfl HR.out ?_)
  go_ret
  exact ⟨_,rfl,R1.out,G1.out,A1.out⟩
set_option maxHeartbeats 4000000 in
set_option maxRecDepth 1000000 in
theorem ins_room145 {α:Type} {d:Kd α} {enc:α→List Value} (F:Flat d enc) (hk:d.sz = 4) (i0:TypeInfo) (hi0:Tryz.prog.info? 145 = some i0) (hz1:i0.size = 4)
  (W:World) (base:Nat) (ok:Nat→Prop) (A:Option Addr) (c:Nat) (xs:List α) (i:Nat) (x:α) (vb vc:Nat) (VC:Array Value) (h:d.R 145 W base ok (.slice A xs.length c) xs) (hi:i < xs.length) (hvb:W.heap[vb]? = some (.cells VC 145 (0,0))) (hvt:∀ (j:Nat) (u:Value),(enc x)[j]? = some u→VC[j]? = some u) (hvs:4≤VC.size) (hne:some vb≠(Value.slice A xs.length c).ownBlock) (hroom:xs.length < c) :
  Calls Tryz.prog 170 #[.slice A xs.length c,.int .i64 i,.slice (some ⟨vb,0,none⟩) 1 vc] W fun e w' => ∃ v',e = .returned v'∧d.R 145 w' base ok v' (xs.take i++x::xs.drop i)∧W.grownBy w' (Value.slice A xs.length c).ownBlock∧(v'.ownBlock = (Value.slice A xs.length c).ownBlock∨∃ b,v'.ownBlock = some b∧W.heap.size≤b):=by
 obtain ⟨h0,ho⟩:=R_open F h
 rw [hk] at ho
 have HL:∀ x,(enc x).length = 4:=fun x => (F.len x).trans hk
 obtain ⟨g,cap,cur,hvg,hbg,hg,hnc,hcm,hcs,htk⟩:=own_blk ho (by omega)
 injection hvg with hA _ hc
 subst hA;subst hc
 unfold maxLen at hcm
 have hu:=Tryz.underlying40
 have hsz:(Tryz.prog.info? 145).map (·.size) = some 4:=by rw [hi0];simp [hz1]
 have hgv:vb≠g:=fun e => hne (by rw [e];rfl)
 obtain ⟨tl,htl⟩:∃ tl,tl = flat enc (xs.drop i):=⟨_,rfl⟩
 have hll:tl.length = (xs.length - i) * 4:=by rw [htl,Z1t HL,List.length_drop]
 have hmid:tl = (cur.toList.drop (i * 4)).take ((xs.length - i) * 4):=by
  rw [htl,←Z5c HL xs i (by omega),←htk,List.drop_take,show xs.length * 4 - i * 4 = (xs.length - i) * 4 by omega]
 have hcp1:∀ ty dc sc,(Builtin.copy_ #[40,40] ty #[.slice (some ⟨g,(i + 1) * 4,none⟩) (xs.length - i) dc,.slice (some ⟨g,i * 4,none⟩) (xs.length + 1 - i) sc]).run Tryz.prog W.drew = .ok (goInt ((xs.length - i:Nat):Int)) (W.drew.setCells g ((i + 1) * 4) tl):=fun ty dc sc =>
  Z2w W.drew _ _ ty 145 4 g ((i + 1) * 4) _ dc ⟨g,i * 4,none⟩ _ sc cur 145 tl hu hsz hg (xs.length - i) (by simp only [Nat.min_def];split <;> omega) hll (fun j u hj => by
   rw [Z4K]
   rw [hmid] at hj
   exact Z6D hg (i * 4) ((xs.length - i) * 4) (by omega) j u hj) (by omega) (by rw [htl];exact Z6U F.one _)
 obtain ⟨W1,hW1⟩:∃ W1,W1 = W.drew.setCells g ((i + 1) * 4) tl:=⟨_,rfl⟩
 obtain ⟨cur1,hg1,hc1,ht1⟩:=Z1o tl ((i + 1) * 4) W.drew cur hg (by omega)
 have hv1:W1.heap[vb]? = some (.cells VC 145 (0,0)):=by rw [hW1,Z0J _ _ _ hgv];exact hvb
 rw [←hW1] at hg1 hcp1
 have hcp2:∀ ty dc,(Builtin.copy_ #[40,40] ty #[.slice (some ⟨g,i * 4,none⟩) (xs.length + 1 - i) dc,.slice (some ⟨vb,0,none⟩) 1 vc]).run Tryz.prog W1 = .ok (goInt ((1:Nat):Int)) (W1.setCells g (i * 4) (enc x)):=fun ty dc =>
  Z2w W1 _ _ ty 145 4 g (i * 4) _ dc ⟨vb,0,none⟩ _ vc cur1 145 (enc x) hu hsz hg1 1 (by simp only [Nat.min_def];split <;> omega) (by rw [HL]) (fun j u hj => by
   rw [Z4K,Nat.zero_add,Z4E hv1];exact hvt j u hj) (by rw [HL];omega) (F.one x)
 obtain ⟨cur2,hg2,hc2,ht2⟩:=Z1o (enc x) (i * 4) W1 cur1 hg1 (by rw [HL];omega)
 have hov:∀ lb cb,(callFunc 214 #[.slice (some ⟨vb,0,none⟩) 1 vc,.slice (some ⟨g,(i + 1) * 4,none⟩) lb cb]).run Tryz.prog W = .ok (.value (.bool false)) W:=fun lb cb => by
  rw [run_callFunc_extern Tryz.func214 (by kernel_rfl) (by kernel_rfl) (by kernel_rfl) (e:=Extern.SlicesOverlaps.overlaps #[40,40] #[4]) (by kernel_rfl),
   Lib.run_overlaps_apart W 40 4 145 hu 4 Tryz.sizeOf145 ⟨vb,0,none⟩ ⟨g,(i + 1) * 4,none⟩ 1 vc lb cb hgv 145 145 VC.size cur.size (by simp [World.shape?,hvb]) (by simp [World.shape?,hg]) (by omega) (Z3G hvb _) (Z3G hvb _)]
  rfl
 have X:Aside0 ((W1.setCells g (i * 4) (enc x)).heap[g]? = some (.cells cur2 145 (0,0))∧cur2.size = c * 4∧cur2.toList.take ((xs.length + 1) * 4) = flat enc (xs.take i++x::xs.drop i)) :=
  ⟨hg2,by rw [hc2,hc1,hcs],mid_cells HL rfl hi htk (by rw [Array.length_toList (xs:=cur)];omega) (by rw [ht1,←htl]) ht2⟩
 have K:Aside0 (W1 = W.drew.setCells g ((i + 1) * 4) tl):=⟨hW1⟩
 have HF:Aside0 (Flat d enc):=⟨F⟩
 have HH:Aside0 (∀ x,(enc x).length = 4):=⟨HL⟩
 have hw1:IntKind.i64.wrap ((i:Int) + 1) = (i:Int) + 1:=by rw [IntKind.wrap_i64];omega
 have hb1:(0:Int)≤(i:Int) + 1:=by omega
 have hz2:¬ ((i:Int) = (xs.length:Int)):=by omega
 have hb2:¬ (c = i + 1):=by omega
 have hb3:(i:Int)≤(xs.length:Int) + 1:=by omega
 have hb4:¬ (c = i):=by omega
 have hin:i≤xs.length:=by omega
 have htn:((i:Int) + 1).toNat = i + 1:=by omega
 have htn2:((xs.length:Int) + 1).toNat = xs.length + 1:=by omega
 clear ht1 hg1 hW1 hmid htl ht2 hg2 htk F h ho hll hg hvb hvt hvs hv1 HL hsz
 go_enter Tryz.func170,Tryz.ntmps170
 go_wp2_with (simp only [hov])
 go_region_law (refine Z8h rfl _ _ 40 40 rfl (by simp [Act.eval,Act.put]) (by simp [Act.eval,Act.put]) (hcp1 _ _ _) ?_)
 go_wp2_with (at_builtin;refine Zdi rfl _ _ 40 40 rfl rfl rfl (hcp2 _ _) ?_)
 go_ret
 refine ⟨_,rfl,R_close HF.out h0 ?_,?_,.inl rfl⟩
 ·rw [hk]
  have hl:(xs.take i++x::xs.drop i).length = xs.length + 1:=by rw [List.length_append,List.length_cons,List.length_take,List.length_drop];omega
  rw [hl]
  exact ⟨by rw [Z1t HH.out,hl],.inr ⟨g,c,cur2,rfl,hbg,X.out.1,by omega,by unfold maxLen;omega,X.out.2.1,X.out.2.2⟩⟩
 ·rw [K.out]
  obtain ⟨a1,a2,a3,a4⟩:=Z14 g tl ((i + 1) * 4) W.drew
  obtain ⟨b1,b2,b3,b4⟩:=Z14 g (enc x) (i * 4) (W.drew.setCells g ((i + 1) * 4) tl)
  refine ⟨b1.trans a1,b2.trans a2,b3.trans a3,?_,fun k _ hne => ?_⟩
  ·rw [b4,a4];exact Nat.le_refl _
  ·have hkg:k≠g:=fun he => hne (by rw [he];rfl)
   rw [Z0J _ _ _ hkg,Z0J _ _ _ hkg]
   rfl
set_option maxHeartbeats 4000000 in
set_option maxRecDepth 1000000 in
theorem ins_grow145 {α:Type} {d:Kd α} {enc:α→List Value} (F:Flat d enc) (hk:d.sz = 4) (i0:TypeInfo) (z:Value) (hi0:Tryz.prog.info? 145 = some i0) (hz0:i0.zero = some z) (hz1:i0.size = 4) (hz2:z.cells.size = 4) (hby:i0.bytes = 40)
  (W:World) (base:Nat) (ok:Nat→Prop) (A:Option Addr) (xs:List α) (i:Nat) (x:α) (vb vc:Nat) (VC:Array Value) (h:d.R 145 W base ok (.slice A xs.length xs.length) xs) (hi:i < xs.length) (hvb:W.heap[vb]? = some (.cells VC 145 (0,0))) (hvt:∀ (j:Nat) (u:Value),(enc x)[j]? = some u→VC[j]? = some u) (hvs:4≤VC.size) (hbase:base≤W.heap.size) (hok:∀ k,W.heap.size≤k→ok k) (hbig:(xs.length + 1) * 40≤140737488355328) :
  Calls Tryz.prog 170 #[.slice A xs.length xs.length,.int .i64 i,.slice (some ⟨vb,0,none⟩) 1 vc] W fun e w' => ∃ v',e = .returned v'∧d.R 145 w' base ok v' (xs.take i++x::xs.drop i)∧W.grownBy w' (Value.slice A xs.length xs.length).ownBlock∧(v'.ownBlock = (Value.slice A xs.length xs.length).ownBlock∨∃ b,v'.ownBlock = some b∧W.heap.size≤b):=by
 obtain ⟨h0,ho⟩:=R_open F h
 rw [hk] at ho
 have HL:∀ x,(enc x).length = 4:=fun x => (F.len x).trans hk
 obtain ⟨g,cap,cur,hvg,hbg,hg,hnc,hcm,hcs,htk⟩:=own_blk ho (by omega)
 injection hvg with hA _ hc
 subst hA
 subst hc
 unfold maxLen at hcm
 have hu:=Tryz.underlying40
 have hu3:=Tryz.underlying3
 have hsz:(Tryz.prog.info? 145).map (·.size) = some 4:=by rw [hi0];simp [hz1]
 have hgl:g < W.heap.size:=blk_lt hg
 have hvl:vb < W.heap.size:=blk_lt hvb
 obtain ⟨G,hG⟩:∃ G,G = W.heap.size:=⟨_,rfl⟩
 obtain ⟨tl,htl⟩:∃ tl,tl = flat enc (xs.drop i):=⟨_,rfl⟩
 have hll:tl.length = (xs.length - i) * 4:=by rw [htl,Z1t HL,List.length_drop]
 have hmid:tl = (cur.toList.drop (i * 4)).take ((xs.length - i) * 4):=by
  rw [htl,←Z5c HL xs i (by omega),←htk,List.drop_take,show xs.length * 4 - i * 4 = (xs.length - i) * 4 by omega]
 obtain ⟨hd,hhd⟩:∃ hd,hd = flat enc (xs.take i):=⟨_,rfl⟩
 have hhl:hd.length = i * 4:=by rw [hhd,Z1t HL,List.length_take,Nat.min_eq_left (by omega)]
 have hold:(Builtin.firstCells i0.size i (.slice (some ⟨g,0,none⟩) i xs.length)).run Tryz.prog W.drew = .ok hd.toArray W.drew :=
  run_firstCells_some (P:=Tryz.prog) W.drew i0.size i ⟨g,0,none⟩ i xs.length hd (by rw [hz1];exact hhl) (fun j u hj => by
   rw [Z4K,Nat.zero_add]
   have:=Z6D hg 0 (i * 4) (by omega) j u (by rw [List.drop_zero,←show (flat enc (xs.take i)) = cur.toList.take (i * 4) by rw [←Z6C HL xs i (by omega),←htk,List.take_take,Nat.min_eq_left (by omega)],←hhd];exact hj)
   rw [Nat.zero_add] at this
   exact this)
 obtain ⟨c1,hc1⟩:∃ c1,c1 = grownCap W (i + (xs.length + 1 - i)) xs.length 145:=⟨_,rfl⟩
 have hge:xs.length + 1≤c1:=by have:=grownCap_ge W (i + (xs.length + 1 - i)) xs.length 145;omega
 have hcm1:c1≤maxLen:=by rw [hc1];exact grownCap_le_maxLen _ _ _ _ (by simp only [maxLen];omega)
 unfold maxLen at hcm1
 obtain ⟨W1,hW1⟩:∃ W1,W1 = W.drew.alloc (.cells (hd.toArray++Builtin.zeroCells z.cells (xs.length + 1 - i)++Builtin.zeroCells z.cells (c1 - (i + (xs.length + 1 - i)))) 145):=⟨_,rfl⟩
 have hap:=Lib.run_append_grow_zeros (P:=Tryz.prog) W 40 3 40 145 i0 z .i64 .i64 hu hu3 hi0 hz0 (some ⟨g,0,none⟩) i xs.length hd hold (xs.length + 1 - i) (by omega) (by omega) (by omega) (by omega) (by rw [hby];omega) (growslice_fits (by omega) (by rw [hby];omega))
 rw [←hc1,←hW1,←hG,show i + (xs.length + 1 - i) = xs.length + 1 by omega] at hap
 obtain ⟨curA,hcA⟩:∃ curA,curA = hd.toArray++Builtin.zeroCells z.cells (xs.length + 1 - i)++Builtin.zeroCells z.cells (c1 - (i + (xs.length + 1 - i))):=⟨_,rfl⟩
 have hgA:W1.heap[G]? = some (.cells curA 145 (0,0)):=by rw [hW1,hG,hcA];exact heap_alloc_new W.drew _
 have hsA:curA.size = c1 * 4:=by
  rw [hcA];simp only [Array.size_append,List.size_toArray,size_zeroCells,hz2,hhl];omega
 have htA:curA.toList.take (i * 4) = flat enc (xs.take i):=by
  rw [hcA];simp only [Array.toList_append,List.append_assoc]
  rw [List.take_append_of_le_length (by omega),List.take_of_length_le (by omega),hhd]
 have hold1:∀ b,b < W.heap.size→W1.heap[b]? = W.heap[b]?:=fun b hb => by rw [hW1];exact heap_alloc_old W.drew _ hb
 have hv1:W1.heap[vb]? = some (.cells VC 145 (0,0)):=(hold1 vb hvl).trans hvb
 have hcp1:∀ ty dc,(Builtin.copy_ #[40,40] ty #[.slice (some ⟨G,i * 4,none⟩) (xs.length + 1 - i) dc,.slice (some ⟨vb,0,none⟩) 1 vc]).run Tryz.prog W1 = .ok (goInt ((1:Nat):Int)) (W1.setCells G (i * 4) (enc x)):=fun ty dc =>
  Z2w W1 _ _ ty 145 4 G (i * 4) _ dc ⟨vb,0,none⟩ _ vc curA 145 (enc x) hu hsz hgA 1 (by simp only [Nat.min_def];split <;> omega) (by rw [HL]) (fun j u hj => by
   rw [Z4K,Nat.zero_add,Z4E hv1];exact hvt j u hj) (by rw [HL];omega) (F.one x)
 obtain ⟨W2,hW2⟩:∃ W2,W2 = W1.setCells G (i * 4) (enc x):=⟨_,rfl⟩
 obtain ⟨cur1,hg1,hs1,ht1⟩:=Z1o (enc x) (i * 4) W1 curA hgA (by rw [HL];omega)
 rw [←hW2] at hg1 hcp1
 have hg2:W2.heap[g]? = some (.cells cur 145 (0,0)):=by rw [hW2,Z0J _ _ _ (by omega)];exact (hold1 g hgl).trans hg
 have hcp2:∀ ty dc sc,(Builtin.copy_ #[40,40] ty #[.slice (some ⟨G,(i + 1) * 4,none⟩) (xs.length - i) dc,.slice (some ⟨g,i * 4,none⟩) (xs.length - i) sc]).run Tryz.prog W2.drew = .ok (goInt ((xs.length - i:Nat):Int)) (W2.drew.setCells G ((i + 1) * 4) tl):=fun ty dc sc =>
  Z2w W2.drew _ _ ty 145 4 G ((i + 1) * 4) _ dc ⟨g,i * 4,none⟩ _ sc cur1 145 tl hu hsz hg1 (xs.length - i) (by simp only [Nat.min_def];split <;> omega) hll (fun j u hj => by
   rw [Z4K]
   rw [hmid] at hj
   exact Z6D hg2 (i * 4) ((xs.length - i) * 4) (by omega) j u hj) (by omega) (by rw [htl];exact Z6U F.one _)
 obtain ⟨cur2,hg3,hs2,ht2⟩:=Z1o tl ((i + 1) * 4) W2.drew cur1 hg1 (by omega)
 have X:Aside0 ((W2.drew.setCells G ((i + 1) * 4) tl).heap[G]? = some (.cells cur2 145 (0,0))∧cur2.size = c1 * 4∧cur2.toList.take ((xs.length + 1) * 4) = flat enc (xs.take i++x::xs.drop i)) :=
  ⟨hg3,by rw [hs2,hs1,hsA],ZcO HL rfl hi htA (by rw [Array.length_toList (xs:=curA)];omega) ht1 (by rw [ht2,←htl])⟩
 have GR:Aside0 (W.grownBy (W2.drew.setCells G ((i + 1) * 4) tl) (Value.slice (some ⟨g,0,none⟩) xs.length xs.length).ownBlock):=by
  obtain ⟨a1,a2,a3,a4⟩:=Z14 G (enc x) (i * 4) W1
  obtain ⟨b1,b2,b3,b4⟩:=Z14 G tl ((i + 1) * 4) W2.drew
  rw [←hW2] at a1 a2 a3 a4
  refine ⟨b1.trans (a1.trans (by rw [hW1];rfl)),b2.trans (a2.trans (by rw [hW1];rfl)),b3.trans (a3.trans (by rw [hW1];rfl)),?_,fun k hk _ => ?_⟩
  ·rw [b4];show _≤W2.heap.size;rw [a4,hW1];simp
  ·rw [Z0J _ _ _ (by omega)]
   show W2.heap[k]? = _
   rw [hW2,Z0J _ _ _ (by omega)]
   exact hold1 k hk
 have HAP:Aside0 ((Builtin.append_ #[40,3] 40 #[.slice (some ⟨g,0,none⟩) i xs.length,.int .i64 ((xs.length:Int) + 1 - (i:Int))]).run Tryz.prog W = .ok (.slice (some ⟨G,0,none⟩) (xs.length + 1) c1) W1):=⟨by rw [show (xs.length:Int) + 1 - (i:Int) = ((xs.length + 1 - i:Nat):Int) by omega];exact hap⟩
 have HF:Aside0 (Flat d enc):=⟨F⟩
 have HH:Aside0 (∀ x,(enc x).length = 4):=⟨HL⟩
 have HG:Aside0 (G = W.heap.size):=⟨hG⟩
 have hbG:base≤G:=by omega
 have hokG:ok G:=hok G (by omega)
 have hw1:IntKind.i64.wrap ((i:Int) + 1) = (i:Int) + 1:=by rw [IntKind.wrap_i64];omega
 have hw2:IntKind.i64.wrap ((xs.length:Int) + 1) = (xs.length:Int) + 1:=by rw [IntKind.wrap_i64];omega
 have hb1:(0:Int)≤(i:Int) + 1:=by omega
 have hz2:¬ ((i:Int) = (xs.length:Int)):=by omega
 have hb2:¬ (c1 = i + 1):=by omega
 have hb3:(i:Int)≤(xs.length:Int) + 1:=by omega
 have hb4:¬ (c1 = i):=by omega
 have hb5:¬ (xs.length = i):=by omega
 have hin:i≤xs.length:=by omega
 have htn:((i:Int) + 1).toNat = i + 1:=by omega
 clear ht1 hg1 hW1 hmid htl ht2 hg2 htk F h ho hll hg hvb hvt hvs hv1 HL hsz hap hold hhd hhl hcA hgA hsA htA hold1 hW2 hg3 hs2 hs1 hG hc1 hok
 go_enter Tryz.func170,Tryz.ntmps170
 go_wp2_with (at_builtin;refine Z5L rfl _ _ 40 3 rfl rfl rfl HAP.out ?_)
 go_region_law (refine Z8h rfl _ _ 40 40 rfl (by simp [Act.eval,Act.put]) (by simp [Act.eval,Act.put]) (hcp2 _ _ _) ?_)
 go_wp2
 go_ret
 refine ⟨_,rfl,R_close HF.out (fun k e => by injection e with e;exact e ▸ hokG) ?_,GR.out,.inr ⟨G,rfl,Nat.le_of_eq HG.out.symm⟩⟩
 rw [hk]
 have hl:(xs.take i++x::xs.drop i).length = xs.length + 1:=by rw [List.length_append,List.length_cons,List.length_take,List.length_drop];omega
 rw [hl]
 exact ⟨by rw [Z1t HH.out,hl],.inr ⟨G,c1,cur2,rfl,hbG,X.out.1,hge,by unfold maxLen;omega,X.out.2.1,X.out.2.2⟩⟩
theorem ins_calls145 {α:Type} {d:Kd α} {enc:α→List Value} (F:Flat d enc) (hk:d.sz = 4) (i0:TypeInfo) (z:Value) (hi0:Tryz.prog.info? 145 = some i0) (hz0:i0.zero = some z) (hz1:i0.size = 4) (hz2:z.cells.size = 4) (hby:i0.bytes = 40)
  (W:World) (base:Nat) (ok:Nat→Prop) (v:Value) (xs:List α) (i:Nat) (x:α) (vb vc:Nat) (VC:Array Value) (h:d.R 145 W base ok v xs) (hi:i≤xs.length) (hvb:W.heap[vb]? = some (.cells VC 145 (0,0))) (hvt:∀ (j:Nat) (u:Value),(enc x)[j]? = some u→VC[j]? = some u) (hvs:4≤VC.size) (hne:some vb≠v.ownBlock) (hbase:base≤W.heap.size) (hok:∀ k,W.heap.size≤k→ok k) (hbig:(xs.length + 1) * 40≤140737488355328) :
  Calls Tryz.prog 170 #[v,.int .i64 i,.slice (some ⟨vb,0,none⟩) 1 vc] W fun e w' => ∃ v',e = .returned v'∧d.R 145 w' base ok v' (xs.take i++x::xs.drop i)∧W.grownBy w' v.ownBlock∧(v'.ownBlock = v.ownBlock∨∃ b,v'.ownBlock = some b∧W.heap.size≤b):=by
 obtain ⟨A,c,rfl⟩:=Kd.R_slice h
 have hnc:=(Kd.R_reads' h).2.1
 rcases Nat.lt_or_eq_of_le hi with hi | rfl
 ·rcases Nat.lt_or_eq_of_le hnc with hc | hc
  ·exact ins_room145 F hk i0 hi0 hz1 W base ok A c xs i x vb vc VC h hi hvb hvt hvs hne hc
  ·subst hc
   exact ins_grow145 F hk i0 z hi0 hz0 hz1 hz2 hby W base ok A xs i x vb vc VC h hi hvb hvt hvs hbase hok hbig
 ·rw [show xs.take xs.length++x::xs.drop xs.length = xs++[x] by simp]
  exact ins_end145 F hk i0 z hi0 hz0 hz1 hz2 hby W base ok A c xs x vb vc VC h hvb hvt hvs hbase hok hbig
set_option maxHeartbeats 4000000 in
set_option maxRecDepth 1000000 in
theorem del_calls122 {α:Type} {d:Kd α} {enc:α→List Value} (F:Flat d enc) (hk:d.sz = 2) (i0:TypeInfo) (z:Value) (hi0:Tryz.prog.info? 122 = some i0) (hz0:i0.zero = some z) (hz1:i0.size = 2) (hz2:z.cells.size = 2) (hzo:∀ u∈z.cells.toList,u.oneCell' = true)
  (W:World) (base:Nat) (ok:Nat→Prop) (v:Value) (A:Option Addr) (c:Nat) (xs:List α) (i:Nat) (hv:v = .slice A xs.length c) (h:d.R 122 W base ok v xs) (hi:i < xs.length) :
  Calls Tryz.prog 239 #[v,.int .i64 i,.int .i64 ((i:Int) + 1)] W fun e w' => ∃ v',e = .returned v'∧d.R 122 w' base ok v' (xs.take i++xs.drop (i + 1))∧W.grownBy w' v.ownBlock∧v'.ownBlock = v.ownBlock:=by
 obtain ⟨h0,ho⟩:=R_open F h
 rw [hk] at ho
 have HL:∀ x,(enc x).length = 2:=fun x => (F.len x).trans hk
 obtain ⟨g,cap,cur,hvg,hbg,hg,hnc,hcm,hcs,htk⟩:=own_blk ho (by omega)
 subst hvg
 unfold maxLen at hcm
 have hu:=Tryz.underlying35
 obtain ⟨news,hnews⟩:∃ news,news = flat enc (xs.drop (i + 1)):=⟨_,rfl⟩
 have hlen:news.length = (xs.length - (i + 1)) * 2:=by rw [hnews,Z1t HL,List.length_drop]
 have hfull:(xs.length - (i + 1)) * 2 + (i + 1) * 2 = xs.length * 2:=by rw [←Nat.add_mul];congr 1;omega
 have hle:xs.length * 2≤cur.size:=by rw [hcs];exact Nat.mul_le_mul_right _ hnc
 have hmid:news = (cur.toList.drop ((i + 1) * 2)).take ((xs.length - (i + 1)) * 2):=by
  rw [hnews,←Z5c HL xs (i + 1) (by omega),←htk,List.drop_take,show xs.length * 2 - (i + 1) * 2 = (xs.length - (i + 1)) * 2 by omega]
 obtain ⟨A,hA,hsrc⟩:∃ A:Addr,(if cap = i + 1 then some (⟨g,0,none⟩:Addr) else some ⟨g,(i + 1) * 2,none⟩) = some A∧Hid (∀ t u,news[t]? = some u→W.drew.cell? (A.add t) = some u):=by
  by_cases hc:cap = i + 1
  ·refine ⟨⟨g,0,none⟩,by simp [hc],fun t u hu => ?_⟩
   have h0:news.length = 0:=by rw [hlen,show xs.length - (i + 1) = 0 by omega,Nat.zero_mul]
   rw [List.length_eq_zero_iff.1 h0] at hu
   simp at hu
  ·refine ⟨⟨g,(i + 1) * 2,none⟩,by simp [hc],fun t u hu => ?_⟩
   rw [Z4K]
   rw [hmid] at hu
   have:=Z6D hg ((i + 1) * 2) ((xs.length - (i + 1)) * 2) (by omega) t u hu
   exact this
 have s1:Hid (news.length = (xs.length - (i + 1)) * 2):=hlen
 have s2:Hid (∀ u∈news,u.oneCell' = true):=by rw [hnews];exact Z6U F.one _
 have hfit:i * 2 + news.length + 2≤cur.size:=by
  rw [hlen]
  have:(i + 1) * 2 = i * 2 + 2:=by rw [Nat.add_mul,Nat.one_mul]
  omega
 have s3:Hid (∀ t,t < news.length→(W.drew.cell? ⟨g,0 + i * 2 + t,none⟩).isSome = true∧W.drew.frozen? ⟨g,0 + i * 2 + t,none⟩ = false):=by
  intro t ht
  refine ⟨?_,Z3G hg _⟩
  show (W.cell? _).isSome = true
  rw [Z4E hg,Nat.zero_add]
  simp only [Array.getElem?_eq_getElem (show i * 2 + t < cur.size by omega),Option.isSome_some]
 obtain ⟨W1,hW1⟩:∃ W1,W1 = W.drew.setCells g (0 + i * 2) news:=⟨_,rfl⟩
 obtain ⟨cur1,hg1,hc1,ht1⟩:=Z1o news (0 + i * 2) W.drew cur hg (by omega)
 rw [←hW1] at hg1
 obtain ⟨zs,hzs⟩:∃ zs,zs = (Builtin.zeroCells z.cells 1).toList:=⟨_,rfl⟩
 have hzl:zs.length = 2:=by rw [hzs,Array.length_toList,size_zeroCells,Nat.one_mul,hz2]
 have hbk:i + (xs.length - (i + 1)) = xs.length - 1:=by omega
 have hfit2:(xs.length - 1) * 2 + 1 * z.cells.size≤cur1.size:=by
  rw [hc1,hz2,Nat.one_mul]
  have:(xs.length - 1) * 2 + 2 = xs.length * 2:=by rw [←Nat.succ_mul];congr 1;omega
  omega
 have hcl:∀ ty,(Builtin.clear_ #[35] ty #[.slice (some ⟨g,(xs.length - 1) * 2,none⟩) (xs.length - (xs.length - 1)) (cap - (xs.length - 1))]).run Tryz.prog W1 = .ok (.tuple #[]) (W1.setCells g ((xs.length - 1) * 2) zs):=fun ty => by
  rw [show xs.length - (xs.length - 1) = 1 by omega]
  exact Z7p W1 35 ty 122 z i0 g _ 1 _ cur1 122 zs hu hi0 hz0 (by omega) hzs hg1 hfit2 hzo
 obtain ⟨cur2,hg2,hc2,ht2⟩:=Z1o zs ((xs.length - 1) * 2) W1 cur1 hg1 (by rw [hz2] at hfit2;omega)
 have K:Aside0 (W1 = W.drew.setCells g (0 + i * 2) news):=⟨hW1⟩
 have X:Aside0 ((W1.setCells g ((xs.length - 1) * 2) zs).heap[g]? = some (.cells cur2 122 (0,0))∧cur2.size = cap * 2∧cur2.toList.take ((xs.length - 1) * 2) = flat enc (xs.take i++xs.drop (i + 1))):=by
  refine ⟨hg2,by rw [hc2,hc1,hcs],?_⟩
  have hp:i * 2 + news.length = (xs.length - 1) * 2:=by omega
  have hq:(cur.toList.take (i * 2)).length = i * 2:=by rw [List.length_take,Array.length_toList (xs:=cur)];omega
  rw [ht2,List.append_assoc,List.take_append_of_le_length (by rw [List.length_take,Array.length_toList (xs:=cur1)];omega),List.take_take,Nat.min_self,ht1,Nat.zero_add,
   List.take_append_of_le_length (by rw [List.length_append,hq];omega),List.take_of_length_le (by rw [List.length_append,hq];omega),Z5r,←hnews,←Z6C HL xs i (by omega),←htk,List.take_take]
  congr 2
  omega
 have HF:Aside0 (Flat d enc):=⟨F⟩
 have hic:i≤cap:=by omega
 have hjc:i + 1≤cap:=by omega
 have hip:(0:Int)≤(i:Int) + 1:=by omega
 have Z:Aside0 (zs.length = 2):=⟨hzl⟩
 clear hzs hzo hz0 hz2 hzl hfit2
 have hin:(i:Int) + 1≤(xs.length:Int):=by omega
 clear ht1 hg1 hW1 hmid hnews ht2 hg2 htk F h ho hlen hg
 go_enter Tryz.func239,Tryz.ntmps239
 go_wp2_with fail
 go_region_law (refine step_append_room rfl (.tmp 22) (.tmp 25) 35 rfl 122 i0 2 hu hi0 hz1 g 0 i c (by simp [Act.eval,Act.put]) A (xs.length - (i + 1)) (c - (i + 1)) news (by simp [Act.eval,Act.put]) s1.out hsrc.out s2.out (by omega) s3.out ?_;rw [←K.out])
 go_wp2
 go_ret
 refine ⟨_,rfl,R_close HF.out h0 ?_,?_,rfl⟩
 ·rw [hk]
  have hl:(xs.take i++xs.drop (i + 1)).length = xs.length - 1:=by rw [List.length_append,List.length_take,List.length_drop];omega
  rw [hl]
  exact ⟨by rw [Z1t HL,hl],.inr ⟨g,c,cur2,rfl,hbg,X.out.1,by omega,by unfold maxLen;omega,X.out.2.1,X.out.2.2⟩⟩
 ·rw [K.out]
  obtain ⟨a1,a2,a3,a4⟩:=Z14 g news (0 + i * 2) W.drew
  obtain ⟨b1,b2,b3,b4⟩:=Z14 g zs ((xs.length - 1) * 2) (W.drew.setCells g (0 + i * 2) news)
  refine ⟨b1.trans a1,b2.trans a2,b3.trans a3,?_,fun k _ hne => ?_⟩
  ·rw [b4,a4];exact Nat.le_refl _
  ·have hkg:k≠g:=fun he => hne (by rw [he];rfl)
   rw [Z0J _ _ _ hkg,Z0J _ _ _ hkg]
   rfl
set_option maxHeartbeats 4000000 in
set_option maxRecDepth 1000000 in
theorem ins_end122 {α:Type} {d:Kd α} {enc:α→List Value} (F:Flat d enc) (hk:d.sz = 2) (i0:TypeInfo) (z:Value) (hi0:Tryz.prog.info? 122 = some i0) (hz0:i0.zero = some z) (hz1:i0.size = 2) (hz2:z.cells.size = 2) (hby:i0.bytes = 32)
  (W:World) (base:Nat) (ok:Nat→Prop) (A:Option Addr) (c:Nat) (xs:List α) (x:α) (vb vc:Nat) (VC:Array Value) (h:d.R 122 W base ok (.slice A xs.length c) xs) (hvb:W.heap[vb]? = some (.cells VC 122 (0,0))) (hvt:∀ (j:Nat) (u:Value),(enc x)[j]? = some u→VC[j]? = some u) (hvs:2≤VC.size) (hbase:base≤W.heap.size) (hok:∀ k,W.heap.size≤k→ok k) (hbig:(xs.length + 1) * 32≤140737488355328) :
  Calls Tryz.prog 238 #[.slice A xs.length c,.int .i64 xs.length,.slice (some ⟨vb,0,none⟩) 1 vc] W fun e w' => ∃ v',e = .returned v'∧d.R 122 w' base ok v' (xs++[x])∧W.grownBy w' (Value.slice A xs.length c).ownBlock∧(v'.ownBlock = (Value.slice A xs.length c).ownBlock∨∃ b,v'.ownBlock = some b∧W.heap.size≤b):=by
 obtain ⟨h0,ho⟩:=R_open F h
 rw [hk] at ho
 have HL:∀ x,(enc x).length = 2:=fun x => (F.len x).trans hk
 have hu:=Tryz.underlying35
 have hlen:xs.length + 1≤140737488355328:=by omega
 have hrd:∀ j u,(enc x)[j]? = some u→W.cell? ((⟨vb,0,none⟩:Addr).add j) = some u:=fun j u hu => by
  rw [Z4K,Nat.zero_add,Z4E hvb]
  exact hvt j u hu
 obtain ⟨v1,w1,hrun,hown1,hg1,-,hat1⟩:=run_append_own_at (P:=Tryz.prog) W base 35 35 122 i0 z 2 32 hu hi0 hz0 hz1 hby hz2 (by omega) (.slice A xs.length c) xs.length (flat enc xs) ho ⟨vb,0,none⟩ 1 vc (enc x) (by rw [HL]) hrd (F.one x) (by simp only [maxLen];omega) hbig hbase
 have HR:Aside0 ((Builtin.append_ #[35,35] 35 #[.slice A xs.length c,.slice (some ⟨vb,0,none⟩) 1 vc]).run Tryz.prog W = .ok v1 w1):=⟨hrun⟩
 have R1:Aside0 (d.R 122 w1 base ok v1 (xs++[x])):=⟨R_close F (fun k e => by
   rcases hat1 with hat | hat
   ·exact h0 k (hat ▸ e)
   ·rw [hat] at e;injection e with e;exact hok k (by omega)) (by rw [hk,Z5r,List.length_append];simpa [flat] using hown1)⟩
 have G1:Aside0 (W.grownBy w1 (Value.slice A xs.length c).ownBlock):=⟨hg1⟩
 have A1:Aside0 (v1.ownBlock = (Value.slice A xs.length c).ownBlock∨∃ b,v1.ownBlock = some b∧W.heap.size≤b):=⟨hat1.imp_right fun e => ⟨_,e,Nat.le_refl _⟩⟩
 have hnc:xs.length≤c:=(Kd.R_reads' h).2.1
 clear hrun hown1 hg1 hat1 hrd h0 ho h hok F hvb hvt hvs
 have hz3:¬ ((1:Int) = 0):=by omega
 have hcx:c = xs.length∨¬ c = xs.length:=Classical.em _
 rcases hcx with rfl | hcx
 all_goals
  go_enter Tryz.func238,Tryz.ntmps238
  go_wp2_with (at_builtin;refine Z5L rfl _ _ 35 35 rfl rfl rfl HR.out ?_)
  go_ret
  exact ⟨_,rfl,R1.out,G1.out,A1.out⟩
set_option maxHeartbeats 4000000 in
set_option maxRecDepth 1000000 in
theorem ins_room122 {α:Type} {d:Kd α} {enc:α→List Value} (F:Flat d enc) (hk:d.sz = 2) (i0:TypeInfo) (hi0:Tryz.prog.info? 122 = some i0) (hz1:i0.size = 2)
  (W:World) (base:Nat) (ok:Nat→Prop) (A:Option Addr) (c:Nat) (xs:List α) (i:Nat) (x:α) (vb vc:Nat) (VC:Array Value) (h:d.R 122 W base ok (.slice A xs.length c) xs) (hi:i < xs.length) (hvb:W.heap[vb]? = some (.cells VC 122 (0,0))) (hvt:∀ (j:Nat) (u:Value),(enc x)[j]? = some u→VC[j]? = some u) (hvs:2≤VC.size) (hne:some vb≠(Value.slice A xs.length c).ownBlock) (hroom:xs.length < c) :
  Calls Tryz.prog 238 #[.slice A xs.length c,.int .i64 i,.slice (some ⟨vb,0,none⟩) 1 vc] W fun e w' => ∃ v',e = .returned v'∧d.R 122 w' base ok v' (xs.take i++x::xs.drop i)∧W.grownBy w' (Value.slice A xs.length c).ownBlock∧(v'.ownBlock = (Value.slice A xs.length c).ownBlock∨∃ b,v'.ownBlock = some b∧W.heap.size≤b):=by
 obtain ⟨h0,ho⟩:=R_open F h
 rw [hk] at ho
 have HL:∀ x,(enc x).length = 2:=fun x => (F.len x).trans hk
 obtain ⟨g,cap,cur,hvg,hbg,hg,hnc,hcm,hcs,htk⟩:=own_blk ho (by omega)
 injection hvg with hA _ hc
 subst hA;subst hc
 unfold maxLen at hcm
 have hu:=Tryz.underlying35
 have hsz:(Tryz.prog.info? 122).map (·.size) = some 2:=by rw [hi0];simp [hz1]
 have hgv:vb≠g:=fun e => hne (by rw [e];rfl)
 obtain ⟨tl,htl⟩:∃ tl,tl = flat enc (xs.drop i):=⟨_,rfl⟩
 have hll:tl.length = (xs.length - i) * 2:=by rw [htl,Z1t HL,List.length_drop]
 have hmid:tl = (cur.toList.drop (i * 2)).take ((xs.length - i) * 2):=by
  rw [htl,←Z5c HL xs i (by omega),←htk,List.drop_take,show xs.length * 2 - i * 2 = (xs.length - i) * 2 by omega]
 have hcp1:∀ ty dc sc,(Builtin.copy_ #[35,35] ty #[.slice (some ⟨g,(i + 1) * 2,none⟩) (xs.length - i) dc,.slice (some ⟨g,i * 2,none⟩) (xs.length + 1 - i) sc]).run Tryz.prog W.drew = .ok (goInt ((xs.length - i:Nat):Int)) (W.drew.setCells g ((i + 1) * 2) tl):=fun ty dc sc =>
  Z2w W.drew _ _ ty 122 2 g ((i + 1) * 2) _ dc ⟨g,i * 2,none⟩ _ sc cur 122 tl hu hsz hg (xs.length - i) (by simp only [Nat.min_def];split <;> omega) hll (fun j u hj => by
   rw [Z4K]
   rw [hmid] at hj
   exact Z6D hg (i * 2) ((xs.length - i) * 2) (by omega) j u hj) (by omega) (by rw [htl];exact Z6U F.one _)
 obtain ⟨W1,hW1⟩:∃ W1,W1 = W.drew.setCells g ((i + 1) * 2) tl:=⟨_,rfl⟩
 obtain ⟨cur1,hg1,hc1,ht1⟩:=Z1o tl ((i + 1) * 2) W.drew cur hg (by omega)
 have hv1:W1.heap[vb]? = some (.cells VC 122 (0,0)):=by rw [hW1,Z0J _ _ _ hgv];exact hvb
 rw [←hW1] at hg1 hcp1
 have hcp2:∀ ty dc,(Builtin.copy_ #[35,35] ty #[.slice (some ⟨g,i * 2,none⟩) (xs.length + 1 - i) dc,.slice (some ⟨vb,0,none⟩) 1 vc]).run Tryz.prog W1 = .ok (goInt ((1:Nat):Int)) (W1.setCells g (i * 2) (enc x)):=fun ty dc =>
  Z2w W1 _ _ ty 122 2 g (i * 2) _ dc ⟨vb,0,none⟩ _ vc cur1 122 (enc x) hu hsz hg1 1 (by simp only [Nat.min_def];split <;> omega) (by rw [HL]) (fun j u hj => by
   rw [Z4K,Nat.zero_add,Z4E hv1];exact hvt j u hj) (by rw [HL];omega) (F.one x)
 obtain ⟨cur2,hg2,hc2,ht2⟩:=Z1o (enc x) (i * 2) W1 cur1 hg1 (by rw [HL];omega)
 have hov:∀ lb cb,(callFunc 249 #[.slice (some ⟨vb,0,none⟩) 1 vc,.slice (some ⟨g,(i + 1) * 2,none⟩) lb cb]).run Tryz.prog W = .ok (.value (.bool false)) W:=fun lb cb => by
  rw [run_callFunc_extern Tryz.func249 (by kernel_rfl) (by kernel_rfl) (by kernel_rfl) (e:=Extern.SlicesOverlaps.overlaps #[35,35] #[4]) (by kernel_rfl),
   Lib.run_overlaps_apart W 35 4 122 hu 2 Tryz.sizeOf122 ⟨vb,0,none⟩ ⟨g,(i + 1) * 2,none⟩ 1 vc lb cb hgv 122 122 VC.size cur.size (by simp [World.shape?,hvb]) (by simp [World.shape?,hg]) (by omega) (Z3G hvb _) (Z3G hvb _)]
  rfl
 have X:Aside0 ((W1.setCells g (i * 2) (enc x)).heap[g]? = some (.cells cur2 122 (0,0))∧cur2.size = c * 2∧cur2.toList.take ((xs.length + 1) * 2) = flat enc (xs.take i++x::xs.drop i)) :=
  ⟨hg2,by rw [hc2,hc1,hcs],mid_cells HL rfl hi htk (by rw [Array.length_toList (xs:=cur)];omega) (by rw [ht1,←htl]) ht2⟩
 have K:Aside0 (W1 = W.drew.setCells g ((i + 1) * 2) tl):=⟨hW1⟩
 have HF:Aside0 (Flat d enc):=⟨F⟩
 have HH:Aside0 (∀ x,(enc x).length = 2):=⟨HL⟩
 have hw1:IntKind.i64.wrap ((i:Int) + 1) = (i:Int) + 1:=by rw [IntKind.wrap_i64];omega
 have hb1:(0:Int)≤(i:Int) + 1:=by omega
 have hz2:¬ ((i:Int) = (xs.length:Int)):=by omega
 have hb2:¬ (c = i + 1):=by omega
 have hb3:(i:Int)≤(xs.length:Int) + 1:=by omega
 have hb4:¬ (c = i):=by omega
 have hin:i≤xs.length:=by omega
 have htn:((i:Int) + 1).toNat = i + 1:=by omega
 have htn2:((xs.length:Int) + 1).toNat = xs.length + 1:=by omega
 clear ht1 hg1 hW1 hmid htl ht2 hg2 htk F h ho hll hg hvb hvt hvs hv1 HL hsz
 go_enter Tryz.func238,Tryz.ntmps238
 go_wp2_with (simp only [hov])
 go_region_law (refine Z8h rfl _ _ 35 35 rfl (by simp [Act.eval,Act.put]) (by simp [Act.eval,Act.put]) (hcp1 _ _ _) ?_)
 go_wp2_with (at_builtin;refine Zdi rfl _ _ 35 35 rfl rfl rfl (hcp2 _ _) ?_)
 go_ret
 refine ⟨_,rfl,R_close HF.out h0 ?_,?_,.inl rfl⟩
 ·rw [hk]
  have hl:(xs.take i++x::xs.drop i).length = xs.length + 1:=by rw [List.length_append,List.length_cons,List.length_take,List.length_drop];omega
  rw [hl]
  exact ⟨by rw [Z1t HH.out,hl],.inr ⟨g,c,cur2,rfl,hbg,X.out.1,by omega,by unfold maxLen;omega,X.out.2.1,X.out.2.2⟩⟩
 ·rw [K.out]
  obtain ⟨a1,a2,a3,a4⟩:=Z14 g tl ((i + 1) * 2) W.drew
  obtain ⟨b1,b2,b3,b4⟩:=Z14 g (enc x) (i * 2) (W.drew.setCells g ((i + 1) * 2) tl)
  refine ⟨b1.trans a1,b2.trans a2,b3.trans a3,?_,fun k _ hne => ?_⟩
  ·rw [b4,a4];exact Nat.le_refl _
  ·have hkg:k≠g:=fun he => hne (by rw [he];rfl)
   rw [Z0J _ _ _ hkg,Z0J _ _ _ hkg]
   rfl
set_option maxHeartbeats 4000000 in
set_option maxRecDepth 1000000 in
theorem ins_grow122 {α:Type} {d:Kd α} {enc:α→List Value} (F:Flat d enc) (hk:d.sz = 2) (i0:TypeInfo) (z:Value) (hi0:Tryz.prog.info? 122 = some i0) (hz0:i0.zero = some z) (hz1:i0.size = 2) (hz2:z.cells.size = 2) (hby:i0.bytes = 32)
  (W:World) (base:Nat) (ok:Nat→Prop) (A:Option Addr) (xs:List α) (i:Nat) (x:α) (vb vc:Nat) (VC:Array Value) (h:d.R 122 W base ok (.slice A xs.length xs.length) xs) (hi:i < xs.length) (hvb:W.heap[vb]? = some (.cells VC 122 (0,0))) (hvt:∀ (j:Nat) (u:Value),(enc x)[j]? = some u→VC[j]? = some u) (hvs:2≤VC.size) (hbase:base≤W.heap.size) (hok:∀ k,W.heap.size≤k→ok k) (hbig:(xs.length + 1) * 32≤140737488355328) :
  Calls Tryz.prog 238 #[.slice A xs.length xs.length,.int .i64 i,.slice (some ⟨vb,0,none⟩) 1 vc] W fun e w' => ∃ v',e = .returned v'∧d.R 122 w' base ok v' (xs.take i++x::xs.drop i)∧W.grownBy w' (Value.slice A xs.length xs.length).ownBlock∧(v'.ownBlock = (Value.slice A xs.length xs.length).ownBlock∨∃ b,v'.ownBlock = some b∧W.heap.size≤b):=by
 obtain ⟨h0,ho⟩:=R_open F h
 rw [hk] at ho
 have HL:∀ x,(enc x).length = 2:=fun x => (F.len x).trans hk
 obtain ⟨g,cap,cur,hvg,hbg,hg,hnc,hcm,hcs,htk⟩:=own_blk ho (by omega)
 injection hvg with hA _ hc
 subst hA
 subst hc
 unfold maxLen at hcm
 have hu:=Tryz.underlying35
 have hu3:=Tryz.underlying3
 have hsz:(Tryz.prog.info? 122).map (·.size) = some 2:=by rw [hi0];simp [hz1]
 have hgl:g < W.heap.size:=blk_lt hg
 have hvl:vb < W.heap.size:=blk_lt hvb
 obtain ⟨G,hG⟩:∃ G,G = W.heap.size:=⟨_,rfl⟩
 obtain ⟨tl,htl⟩:∃ tl,tl = flat enc (xs.drop i):=⟨_,rfl⟩
 have hll:tl.length = (xs.length - i) * 2:=by rw [htl,Z1t HL,List.length_drop]
 have hmid:tl = (cur.toList.drop (i * 2)).take ((xs.length - i) * 2):=by
  rw [htl,←Z5c HL xs i (by omega),←htk,List.drop_take,show xs.length * 2 - i * 2 = (xs.length - i) * 2 by omega]
 obtain ⟨hd,hhd⟩:∃ hd,hd = flat enc (xs.take i):=⟨_,rfl⟩
 have hhl:hd.length = i * 2:=by rw [hhd,Z1t HL,List.length_take,Nat.min_eq_left (by omega)]
 have hold:(Builtin.firstCells i0.size i (.slice (some ⟨g,0,none⟩) i xs.length)).run Tryz.prog W.drew = .ok hd.toArray W.drew :=
  run_firstCells_some (P:=Tryz.prog) W.drew i0.size i ⟨g,0,none⟩ i xs.length hd (by rw [hz1];exact hhl) (fun j u hj => by
   rw [Z4K,Nat.zero_add]
   have:=Z6D hg 0 (i * 2) (by omega) j u (by rw [List.drop_zero,←show (flat enc (xs.take i)) = cur.toList.take (i * 2) by rw [←Z6C HL xs i (by omega),←htk,List.take_take,Nat.min_eq_left (by omega)],←hhd];exact hj)
   rw [Nat.zero_add] at this
   exact this)
 obtain ⟨c1,hc1⟩:∃ c1,c1 = grownCap W (i + (xs.length + 1 - i)) xs.length 122:=⟨_,rfl⟩
 have hge:xs.length + 1≤c1:=by have:=grownCap_ge W (i + (xs.length + 1 - i)) xs.length 122;omega
 have hcm1:c1≤maxLen:=by rw [hc1];exact grownCap_le_maxLen _ _ _ _ (by simp only [maxLen];omega)
 unfold maxLen at hcm1
 obtain ⟨W1,hW1⟩:∃ W1,W1 = W.drew.alloc (.cells (hd.toArray++Builtin.zeroCells z.cells (xs.length + 1 - i)++Builtin.zeroCells z.cells (c1 - (i + (xs.length + 1 - i)))) 122):=⟨_,rfl⟩
 have hap:=Lib.run_append_grow_zeros (P:=Tryz.prog) W 35 3 35 122 i0 z .i64 .i64 hu hu3 hi0 hz0 (some ⟨g,0,none⟩) i xs.length hd hold (xs.length + 1 - i) (by omega) (by omega) (by omega) (by omega) (by rw [hby];omega) (growslice_fits (by omega) (by rw [hby];omega))
 rw [←hc1,←hW1,←hG,show i + (xs.length + 1 - i) = xs.length + 1 by omega] at hap
 obtain ⟨curA,hcA⟩:∃ curA,curA = hd.toArray++Builtin.zeroCells z.cells (xs.length + 1 - i)++Builtin.zeroCells z.cells (c1 - (i + (xs.length + 1 - i))):=⟨_,rfl⟩
 have hgA:W1.heap[G]? = some (.cells curA 122 (0,0)):=by rw [hW1,hG,hcA];exact heap_alloc_new W.drew _
 have hsA:curA.size = c1 * 2:=by
  rw [hcA];simp only [Array.size_append,List.size_toArray,size_zeroCells,hz2,hhl];omega
 have htA:curA.toList.take (i * 2) = flat enc (xs.take i):=by
  rw [hcA];simp only [Array.toList_append,List.append_assoc]
  rw [List.take_append_of_le_length (by omega),List.take_of_length_le (by omega),hhd]
 have hold1:∀ b,b < W.heap.size→W1.heap[b]? = W.heap[b]?:=fun b hb => by rw [hW1];exact heap_alloc_old W.drew _ hb
 have hv1:W1.heap[vb]? = some (.cells VC 122 (0,0)):=(hold1 vb hvl).trans hvb
 have hcp1:∀ ty dc,(Builtin.copy_ #[35,35] ty #[.slice (some ⟨G,i * 2,none⟩) (xs.length + 1 - i) dc,.slice (some ⟨vb,0,none⟩) 1 vc]).run Tryz.prog W1 = .ok (goInt ((1:Nat):Int)) (W1.setCells G (i * 2) (enc x)):=fun ty dc =>
  Z2w W1 _ _ ty 122 2 G (i * 2) _ dc ⟨vb,0,none⟩ _ vc curA 122 (enc x) hu hsz hgA 1 (by simp only [Nat.min_def];split <;> omega) (by rw [HL]) (fun j u hj => by
   rw [Z4K,Nat.zero_add,Z4E hv1];exact hvt j u hj) (by rw [HL];omega) (F.one x)
 obtain ⟨W2,hW2⟩:∃ W2,W2 = W1.setCells G (i * 2) (enc x):=⟨_,rfl⟩
 obtain ⟨cur1,hg1,hs1,ht1⟩:=Z1o (enc x) (i * 2) W1 curA hgA (by rw [HL];omega)
 rw [←hW2] at hg1 hcp1
 have hg2:W2.heap[g]? = some (.cells cur 122 (0,0)):=by rw [hW2,Z0J _ _ _ (by omega)];exact (hold1 g hgl).trans hg
 have hcp2:∀ ty dc sc,(Builtin.copy_ #[35,35] ty #[.slice (some ⟨G,(i + 1) * 2,none⟩) (xs.length - i) dc,.slice (some ⟨g,i * 2,none⟩) (xs.length - i) sc]).run Tryz.prog W2.drew = .ok (goInt ((xs.length - i:Nat):Int)) (W2.drew.setCells G ((i + 1) * 2) tl):=fun ty dc sc =>
  Z2w W2.drew _ _ ty 122 2 G ((i + 1) * 2) _ dc ⟨g,i * 2,none⟩ _ sc cur1 122 tl hu hsz hg1 (xs.length - i) (by simp only [Nat.min_def];split <;> omega) hll (fun j u hj => by
   rw [Z4K]
   rw [hmid] at hj
   exact Z6D hg2 (i * 2) ((xs.length - i) * 2) (by omega) j u hj) (by omega) (by rw [htl];exact Z6U F.one _)
 obtain ⟨cur2,hg3,hs2,ht2⟩:=Z1o tl ((i + 1) * 2) W2.drew cur1 hg1 (by omega)
 have X:Aside0 ((W2.drew.setCells G ((i + 1) * 2) tl).heap[G]? = some (.cells cur2 122 (0,0))∧cur2.size = c1 * 2∧cur2.toList.take ((xs.length + 1) * 2) = flat enc (xs.take i++x::xs.drop i)) :=
  ⟨hg3,by rw [hs2,hs1,hsA],ZcO HL rfl hi htA (by rw [Array.length_toList (xs:=curA)];omega) ht1 (by rw [ht2,←htl])⟩
 have GR:Aside0 (W.grownBy (W2.drew.setCells G ((i + 1) * 2) tl) (Value.slice (some ⟨g,0,none⟩) xs.length xs.length).ownBlock):=by
  obtain ⟨a1,a2,a3,a4⟩:=Z14 G (enc x) (i * 2) W1
  obtain ⟨b1,b2,b3,b4⟩:=Z14 G tl ((i + 1) * 2) W2.drew
  rw [←hW2] at a1 a2 a3 a4
  refine ⟨b1.trans (a1.trans (by rw [hW1];rfl)),b2.trans (a2.trans (by rw [hW1];rfl)),b3.trans (a3.trans (by rw [hW1];rfl)),?_,fun k hk _ => ?_⟩
  ·rw [b4];show _≤W2.heap.size;rw [a4,hW1];simp
  ·rw [Z0J _ _ _ (by omega)]
   show W2.heap[k]? = _
   rw [hW2,Z0J _ _ _ (by omega)]
   exact hold1 k hk
 have HAP:Aside0 ((Builtin.append_ #[35,3] 35 #[.slice (some ⟨g,0,none⟩) i xs.length,.int .i64 ((xs.length:Int) + 1 - (i:Int))]).run Tryz.prog W = .ok (.slice (some ⟨G,0,none⟩) (xs.length + 1) c1) W1):=⟨by rw [show (xs.length:Int) + 1 - (i:Int) = ((xs.length + 1 - i:Nat):Int) by omega];exact hap⟩
 have HF:Aside0 (Flat d enc):=⟨F⟩
 have HH:Aside0 (∀ x,(enc x).length = 2):=⟨HL⟩
 have HG:Aside0 (G = W.heap.size):=⟨hG⟩
 have hbG:base≤G:=by omega
 have hokG:ok G:=hok G (by omega)
 have hw1:IntKind.i64.wrap ((i:Int) + 1) = (i:Int) + 1:=by rw [IntKind.wrap_i64];omega
 have hw2:IntKind.i64.wrap ((xs.length:Int) + 1) = (xs.length:Int) + 1:=by rw [IntKind.wrap_i64];omega
 have hb1:(0:Int)≤(i:Int) + 1:=by omega
 have hz2:¬ ((i:Int) = (xs.length:Int)):=by omega
 have hb2:¬ (c1 = i + 1):=by omega
 have hb3:(i:Int)≤(xs.length:Int) + 1:=by omega
 have hb4:¬ (c1 = i):=by omega
 have hb5:¬ (xs.length = i):=by omega
 have hin:i≤xs.length:=by omega
 have htn:((i:Int) + 1).toNat = i + 1:=by omega
 clear ht1 hg1 hW1 hmid htl ht2 hg2 htk F h ho hll hg hvb hvt hvs hv1 HL hsz hap hold hhd hhl hcA hgA hsA htA hold1 hW2 hg3 hs2 hs1 hG hc1 hok
 go_enter Tryz.func238,Tryz.ntmps238
 go_wp2_with (at_builtin;refine Z5L rfl _ _ 35 3 rfl rfl rfl HAP.out ?_)
 go_region_law (refine Z8h rfl _ _ 35 35 rfl (by simp [Act.eval,Act.put]) (by simp [Act.eval,Act.put]) (hcp2 _ _ _) ?_)
 go_wp2
 go_ret
 refine ⟨_,rfl,R_close HF.out (fun k e => by injection e with e;exact e ▸ hokG) ?_,GR.out,.inr ⟨G,rfl,Nat.le_of_eq HG.out.symm⟩⟩
 rw [hk]
 have hl:(xs.take i++x::xs.drop i).length = xs.length + 1:=by rw [List.length_append,List.length_cons,List.length_take,List.length_drop];omega
 rw [hl]
 exact ⟨by rw [Z1t HH.out,hl],.inr ⟨G,c1,cur2,rfl,hbG,X.out.1,hge,by unfold maxLen;omega,X.out.2.1,X.out.2.2⟩⟩
theorem ins_calls122 {α:Type} {d:Kd α} {enc:α→List Value} (F:Flat d enc) (hk:d.sz = 2) (i0:TypeInfo) (z:Value) (hi0:Tryz.prog.info? 122 = some i0) (hz0:i0.zero = some z) (hz1:i0.size = 2) (hz2:z.cells.size = 2) (hby:i0.bytes = 32)
  (W:World) (base:Nat) (ok:Nat→Prop) (v:Value) (xs:List α) (i:Nat) (x:α) (vb vc:Nat) (VC:Array Value) (h:d.R 122 W base ok v xs) (hi:i≤xs.length) (hvb:W.heap[vb]? = some (.cells VC 122 (0,0))) (hvt:∀ (j:Nat) (u:Value),(enc x)[j]? = some u→VC[j]? = some u) (hvs:2≤VC.size) (hne:some vb≠v.ownBlock) (hbase:base≤W.heap.size) (hok:∀ k,W.heap.size≤k→ok k) (hbig:(xs.length + 1) * 32≤140737488355328) :
  Calls Tryz.prog 238 #[v,.int .i64 i,.slice (some ⟨vb,0,none⟩) 1 vc] W fun e w' => ∃ v',e = .returned v'∧d.R 122 w' base ok v' (xs.take i++x::xs.drop i)∧W.grownBy w' v.ownBlock∧(v'.ownBlock = v.ownBlock∨∃ b,v'.ownBlock = some b∧W.heap.size≤b):=by
 obtain ⟨A,c,rfl⟩:=Kd.R_slice h
 have hnc:=(Kd.R_reads' h).2.1
 rcases Nat.lt_or_eq_of_le hi with hi | rfl
 ·rcases Nat.lt_or_eq_of_le hnc with hc | hc
  ·exact ins_room122 F hk i0 hi0 hz1 W base ok A c xs i x vb vc VC h hi hvb hvt hvs hne hc
  ·subst hc
   exact ins_grow122 F hk i0 z hi0 hz0 hz1 hz2 hby W base ok A xs i x vb vc VC h hi hvb hvt hvs hbase hok hbig
 ·rw [show xs.take xs.length++x::xs.drop xs.length = xs++[x] by simp]
  exact ins_end122 F hk i0 z hi0 hz0 hz1 hz2 hby W base ok A c xs x vb vc VC h hvb hvt hvs hbase hok hbig
end Go.Eb
namespace Go.Eb
open Go.RowKit Go.Proofs Go.Proofs.YtlmicldpfnmeaaaGreatDoorW.PrintWords Go.Proofs.YtlmicldpfnmeaaaGreatDoorW.PrintLast Go.Proofs.YtlmicldpfnmeaaaGreatDoorW.PrintMore
set_option maxRecDepth 100000 in
theorem ZdU (a b:ByteArray) (w:World):Calls Tryz.prog 213 #[.string a,.string b] w fun e w' => e = .returned (.int .i64 (Lib.compareBytes a.data.toList b.data.toList))∧w = w':=by
 go_enter Tryz.func213,Tryz.ntmps213
 go_wp2
 rw [run_callFunc_extern Tryz.func228 (by kernel_rfl) (by kernel_rfl) (by kernel_rfl) (e:=Extern.BytealgCompare.compare) (by kernel_rfl),Lib.run_compareString]
 simp only [Result.andThen]
 rw [Oper.upon_value]
 go_wp2
 go_ret
 exact ⟨rfl,rfl⟩
theorem strcmp_calls (a b:ByteArray) (w:World):Calls Tryz.prog 168 #[.string a,.string b] w fun e w' => e = .returned (.int .i64 (Lib.compareBytes a.data.toList b.data.toList))∧w = w':=by
 go_enter Tryz.func168,Tryz.ntmps168
 go_wp2_with (go_at_call 213;refine (ZdU _ _ _).mono ?_;rintro e w' ⟨rfl,rfl⟩)
 go_ret
 exact ⟨rfl,rfl⟩
def itoaRen:Go.Shelf.Ren where
 f:=fun x => match x with | 171 => 202 | 243 => 224 | 246 => 233 | 283 => 240 | 284 => 241 | 285 => 242 | 286 => 243 | 129 => 252 | 317 => 251 | 318 => 253 | 319 => 254 | 320 => 255 | 337 => 260 | 338 => 261 | n => n
 t:=fun x => match x with | 3 => 3 | 9 => 9 | 2 => 2 | 4 => 4 | 171 => 256 | 0 => 0 | 53 => 257 | 37 => 55 | 5 => 5 | 173 => 260 | 212 => 271 | 51 => 184 | 20 => 20 | 213 => 272 | 46 => 221 | 232 => 286 | 233 => 287 | n => n
 g:=fun x => match x with | 17 => 1 | 18 => 4 | 19 => 5 | n => n
theorem itoaLays:LaysM.n171 Tryz.prog itoaRen where
 mixed:=by kernel_rfl
 f129:=Tryz.func252.trans (by kernel_rfl)
 f171:=Tryz.func202.trans (by kernel_rfl)
 f243:=Tryz.func224.trans (by kernel_rfl)
 f246:=Tryz.func233.trans (by kernel_rfl)
 f283:=Tryz.func240.trans (by kernel_rfl)
 f284:=Tryz.func241.trans (by kernel_rfl)
 f285:=Tryz.func242.trans (by kernel_rfl)
 f286:=Tryz.func243.trans (by kernel_rfl)
 f317:=Tryz.func251.trans (by kernel_rfl)
 f318:=Tryz.func253.trans (by kernel_rfl)
 f319:=Tryz.func254.trans (by kernel_rfl)
 f320:=Tryz.func255.trans (by kernel_rfl)
 f337:=Tryz.func260.trans (by kernel_rfl)
 f338:=Tryz.func261.trans (by kernel_rfl)
 t0:=Tryz.underlying0
 a0:=Tryz.isAgg0
 z0:=Tryz.sizeOf0
 v0:=Tryz.zeroValue0
 t2:=Tryz.underlying2
 a2:=Tryz.isAgg2
 z2:=Tryz.sizeOf2
 v2:=Tryz.zeroValue2
 t3:=Tryz.underlying3
 a3:=Tryz.isAgg3
 z3:=Tryz.sizeOf3
 v3:=Tryz.zeroValue3
 t4:=Tryz.underlying4
 a4:=Tryz.isAgg4
 z4:=Tryz.sizeOf4
 v4:=Tryz.zeroValue4
 t5:=Tryz.underlying5
 a5:=Tryz.isAgg5
 z5:=Tryz.sizeOf5
 v5:=Tryz.zeroValue5
 t9:=Tryz.underlying9
 a9:=Tryz.isAgg9
 z9:=Tryz.sizeOf9
 v9:=Tryz.zeroValue9
 t20:=Tryz.underlying20
 a20:=Tryz.isAgg20
 z20:=Tryz.sizeOf20
 v20:=Tryz.zeroValue20
 t37:=Tryz.underlying55
 a37:=Tryz.isAgg55
 z37:=Tryz.sizeOf55
 v37:=Tryz.zeroValue55
 t46:=Tryz.underlying221
 a46:=Tryz.isAgg221
 z46:=Tryz.sizeOf221
 v46:=Tryz.zeroValue221
 t51:=Tryz.underlying184
 a51:=Tryz.isAgg184
 z51:=Tryz.sizeOf184
 v51:=Tryz.zeroValue184
 t53:=Tryz.underlying257
 a53:=Tryz.isAgg257
 z53:=Tryz.sizeOf257
 v53:=Tryz.zeroValue257
 t171:=Tryz.underlying256
 a171:=Tryz.isAgg256
 z171:=Tryz.sizeOf256
 v171:=Tryz.zeroValue256
 t173:=Tryz.underlying260
 a173:=Tryz.isAgg260
 z173:=Tryz.sizeOf260
 v173:=Tryz.zeroValue260
 t212:=Tryz.underlying271
 a212:=Tryz.isAgg271
 z212:=Tryz.sizeOf271
 v212:=Tryz.zeroValue271
 t213:=Tryz.underlying272
 a213:=Tryz.isAgg272
 z213:=Tryz.sizeOf272
 t232:=Tryz.underlying286
 a232:=Tryz.isAgg286
 z232:=Tryz.sizeOf286
 v232:=Tryz.zeroValue286
 t233:=Tryz.underlying287
 a233:=Tryz.isAgg287
 z233:=Tryz.sizeOf287
 v233:=Tryz.zeroValue287
 g17:=by kernel_rfl
 g18:=by kernel_rfl
 g19:=by kernel_rfl
 i0:=by kernel_rfl
 i2:=by kernel_rfl
 i3:=by kernel_rfl
 i4:=by kernel_rfl
 i5:=by kernel_rfl
 i9:=by kernel_rfl
 i20:=by kernel_rfl
 i37:=by kernel_rfl
 i46:=by kernel_rfl
 i51:=by kernel_rfl
 i53:=by kernel_rfl
 i171:=by kernel_rfl
 i173:=by kernel_rfl
 i212:=by kernel_rfl
 i232:=by kernel_rfl
 i233:=by kernel_rfl
 m17:=by kernel_rfl
 m18:=by kernel_rfl
 m19:=by kernel_rfl
def TB (w : World) : Prop := Lib.TabIs Tryz.prog w "internal/strconv.uint64pow10" .u64 Lib.pow10Tab
def impl_Decimal.f (a0:Int):Option (ByteArray):=if -9223372036854775808≤a0 then (if a0≤9223372036854775807 then some ⟨(Lib.itoa a0).toArray⟩ else none) else none
theorem impl_Decimal.calls (a0:Int) (r:ByteArray) (w:World) (h:impl_Decimal.f a0 = some r) (hT:TB w):Calls Tryz.prog 145 #[.int .i64 a0] w fun e w' => e = .returned (.string r)∧Below w.heap.size w w':=by
 unfold impl_Decimal.f at h
 by_cases h0:-9223372036854775808≤a0
 ·rw [if_pos h0] at h
  by_cases h1:a0≤9223372036854775807
  ·rw [if_pos h1] at h
   have HR:=Aside0.mk (Option.some.inj h)
   have H0:=Aside0.mk h0
   have H1:=Aside0.mk h1
   have HT:=Aside0.mk hT
   clear h h0 h1 hT
   go_enter Tryz.func145,Tryz.ntmps145
   go_wp2_with (go_at_call 202;refine (Any.strconv_Itoa itoaLays a0 H0.out H1.out w HT.out).mono ?_;rintro e w' ⟨rfl,k,os,hw⟩;rw [HR.out];have HB:=Aside0.mk (show Below w.heap.size w w' by rw [hw];exact Lib.below_grow _ _ (Nat.le_refl _) _ _);clear hw)
   go_ret
   exact ⟨rfl,HB.out⟩
  ·rw [if_neg h1] at h;cases h
 ·rw [if_neg h0] at h;cases h
end Go.Eb
namespace Go.Eb
open Go.RowKit Go.Proofs Go.Shelf
set_option maxRecDepth 100000
def atoiRen:Go.Shelf.Ren where
 f:=fun x => match x with | 172 => 227 | 244 => 235 | 245 => 236 | 247 => 244 | 279 => 245 | 280 => 246 | 281 => 247 | 282 => 248 | 287 => 256 | 316 => 257 | 171 => 202 | 205 => 258 | 321 => 262 | 322 => 263 | 243 => 224 | 246 => 233 | 283 => 240 | 284 => 241 | 285 => 242 | 286 => 243 | 129 => 252 | 317 => 251 | 318 => 253 | 319 => 254 | 320 => 255 | 337 => 260 | 338 => 261 | n => n
 t:=fun x => match x with | 9 => 9 | 3 => 3 | 75 => 244 | 76 => 245 | 4 => 4 | 5 => 5 | 167 => 262 | 37 => 55 | 0 => 0 | 85 => 263 | 2 => 2 | 168 => 265 | 53 => 257 | 175 => 274 | 46 => 221 | 210 => 277 | 127 => 281 | 145 => 284 | 143 => 282 | 21 => 21 | 171 => 256 | 173 => 260 | 212 => 271 | 51 => 184 | 20 => 20 | 213 => 272 | 232 => 286 | 233 => 287 | 80 => 232 | n => n
 g:=fun x => match x with | 15 => 2 | 16 => 3 | 17 => 1 | 18 => 4 | 19 => 5 | n => n
theorem atoiLays:LaysC.n172 Tryz.prog atoiRen where
 mixed:=by kernel_rfl
 f129:=Tryz.func252.trans (by kernel_rfl)
 f171:=Tryz.func202.trans (by kernel_rfl)
 f172:=Tryz.func227.trans (by kernel_rfl)
 f205:=Tryz.func258.trans (by kernel_rfl)
 f243:=Tryz.func224.trans (by kernel_rfl)
 f244:=Tryz.func235.trans (by kernel_rfl)
 f245:=Tryz.func236.trans (by kernel_rfl)
 f246:=Tryz.func233.trans (by kernel_rfl)
 f247:=Tryz.func244.trans (by kernel_rfl)
 f279:=Tryz.func245.trans (by kernel_rfl)
 f280:=Tryz.func246.trans (by kernel_rfl)
 f281:=Tryz.func247.trans (by kernel_rfl)
 f282:=Tryz.func248.trans (by kernel_rfl)
 f283:=Tryz.func240.trans (by kernel_rfl)
 f284:=Tryz.func241.trans (by kernel_rfl)
 f285:=Tryz.func242.trans (by kernel_rfl)
 f286:=Tryz.func243.trans (by kernel_rfl)
 f287:=Tryz.func256.trans (by kernel_rfl)
 f316:=Tryz.func257.trans (by kernel_rfl)
 f317:=Tryz.func251.trans (by kernel_rfl)
 f318:=Tryz.func253.trans (by kernel_rfl)
 f319:=Tryz.func254.trans (by kernel_rfl)
 f320:=Tryz.func255.trans (by kernel_rfl)
 f321:=Tryz.func262.trans (by kernel_rfl)
 f322:=Tryz.func263.trans (by kernel_rfl)
 f337:=Tryz.func260.trans (by kernel_rfl)
 f338:=Tryz.func261.trans (by kernel_rfl)
 t0:=Tryz.underlying0
 a0:=Tryz.isAgg0
 z0:=Tryz.sizeOf0
 v0:=Tryz.zeroValue0
 t2:=Tryz.underlying2
 a2:=Tryz.isAgg2
 z2:=Tryz.sizeOf2
 v2:=Tryz.zeroValue2
 t3:=Tryz.underlying3
 a3:=Tryz.isAgg3
 z3:=Tryz.sizeOf3
 v3:=Tryz.zeroValue3
 t4:=Tryz.underlying4
 a4:=Tryz.isAgg4
 z4:=Tryz.sizeOf4
 v4:=Tryz.zeroValue4
 t5:=Tryz.underlying5
 a5:=Tryz.isAgg5
 z5:=Tryz.sizeOf5
 v5:=Tryz.zeroValue5
 t9:=Tryz.underlying9
 a9:=Tryz.isAgg9
 z9:=Tryz.sizeOf9
 v9:=Tryz.zeroValue9
 t20:=Tryz.underlying20
 a20:=Tryz.isAgg20
 z20:=Tryz.sizeOf20
 v20:=Tryz.zeroValue20
 t21:=Tryz.underlying21
 a21:=Tryz.isAgg21
 z21:=Tryz.sizeOf21
 v21:=Tryz.zeroValue21
 t37:=Tryz.underlying55
 a37:=Tryz.isAgg55
 z37:=Tryz.sizeOf55
 v37:=Tryz.zeroValue55
 t46:=Tryz.underlying221
 a46:=Tryz.isAgg221
 z46:=Tryz.sizeOf221
 v46:=Tryz.zeroValue221
 t51:=Tryz.underlying184
 a51:=Tryz.isAgg184
 z51:=Tryz.sizeOf184
 v51:=Tryz.zeroValue184
 t53:=Tryz.underlying257
 a53:=Tryz.isAgg257
 z53:=Tryz.sizeOf257
 v53:=Tryz.zeroValue257
 t75:=Tryz.underlying244
 a75:=Tryz.isAgg244
 z75:=Tryz.sizeOf244
 v75:=Tryz.zeroValue244
 t76:=Tryz.underlying245
 a76:=Tryz.isAgg245
 z76:=Tryz.sizeOf245
 v76:=Tryz.zeroValue245
 t85:=Tryz.underlying263
 a85:=Tryz.isAgg263
 z85:=Tryz.sizeOf263
 v85:=Tryz.zeroValue263
 t127:=Tryz.underlying281
 a127:=Tryz.isAgg281
 z127:=Tryz.sizeOf281
 v127:=Tryz.zeroValue281
 t143:=Tryz.underlying282
 a143:=Tryz.isAgg282
 z143:=Tryz.sizeOf282
 v143:=Tryz.zeroValue282
 t145:=Tryz.underlying284
 a145:=Tryz.isAgg284
 z145:=Tryz.sizeOf284
 v145:=Tryz.zeroValue284
 t167:=Tryz.underlying262
 a167:=Tryz.isAgg262
 z167:=Tryz.sizeOf262
 v167:=Tryz.zeroValue262
 t168:=Tryz.underlying265
 a168:=Tryz.isAgg265
 z168:=Tryz.sizeOf265
 v168:=Tryz.zeroValue265
 t171:=Tryz.underlying256
 a171:=Tryz.isAgg256
 z171:=Tryz.sizeOf256
 v171:=Tryz.zeroValue256
 t173:=Tryz.underlying260
 a173:=Tryz.isAgg260
 z173:=Tryz.sizeOf260
 v173:=Tryz.zeroValue260
 t175:=Tryz.underlying274
 a175:=Tryz.isAgg274
 z175:=Tryz.sizeOf274
 v175:=Tryz.zeroValue274
 t210:=Tryz.underlying277
 a210:=Tryz.isAgg277
 z210:=Tryz.sizeOf277
 v210:=Tryz.zeroValue277
 t212:=Tryz.underlying271
 a212:=Tryz.isAgg271
 z212:=Tryz.sizeOf271
 v212:=Tryz.zeroValue271
 t213:=Tryz.underlying272
 a213:=Tryz.isAgg272
 z213:=Tryz.sizeOf272
 t232:=Tryz.underlying286
 a232:=Tryz.isAgg286
 z232:=Tryz.sizeOf286
 v232:=Tryz.zeroValue286
 t233:=Tryz.underlying287
 a233:=Tryz.isAgg287
 z233:=Tryz.sizeOf287
 v233:=Tryz.zeroValue287
 g15:=by kernel_rfl
 g16:=by kernel_rfl
 g17:=by kernel_rfl
 g18:=by kernel_rfl
 g19:=by kernel_rfl
 t80:=Tryz.underlying232
 a80:=Tryz.isAgg232
 z80:=Tryz.sizeOf232
 v80:=Tryz.zeroValue232
 i0:=by kernel_rfl
 i2:=by kernel_rfl
 i3:=by kernel_rfl
 i4:=by kernel_rfl
 i5:=by kernel_rfl
 i9:=by kernel_rfl
 i20:=by kernel_rfl
 i21:=by kernel_rfl
 i37:=by kernel_rfl
 i46:=by kernel_rfl
 i51:=by kernel_rfl
 i53:=by kernel_rfl
 i75:=by kernel_rfl
 i76:=by kernel_rfl
 i80:=by kernel_rfl
 i85:=by kernel_rfl
 i127:=by kernel_rfl
 i143:=by kernel_rfl
 i145:=by kernel_rfl
 i167:=by kernel_rfl
 i168:=by kernel_rfl
 i171:=by kernel_rfl
 i173:=by kernel_rfl
 i175:=by kernel_rfl
 i210:=by kernel_rfl
 i212:=by kernel_rfl
 i232:=by kernel_rfl
 i233:=by kernel_rfl
 m15:=by kernel_rfl
 m16:=by kernel_rfl
 m17:=by kernel_rfl
 m18:=by kernel_rfl
 m19:=by kernel_rfl
 c0:=by kernel_rfl
 c2:=by kernel_rfl
 c3:=by kernel_rfl
 c4:=by kernel_rfl
 c5:=by kernel_rfl
 c9:=by kernel_rfl
 c20:=by kernel_rfl
 c21:=by kernel_rfl
 c37:=by kernel_rfl
 c46:=by kernel_rfl
 c51:=by kernel_rfl
 c53:=by kernel_rfl
 c75:=by kernel_rfl
 c76:=by kernel_rfl
 c80:=by kernel_rfl
 c85:=by kernel_rfl
 c127:=by kernel_rfl
 c143:=by kernel_rfl
 c145:=by kernel_rfl
 c167:=by kernel_rfl
 c168:=by kernel_rfl
 c171:=by kernel_rfl
 c173:=by kernel_rfl
 c175:=by kernel_rfl
 c210:=by kernel_rfl
 c212:=by kernel_rfl
 c213:=by kernel_rfl
 c232:=by kernel_rfl
 c233:=by kernel_rfl
theorem atoi_calls (s:ByteArray) (hl:s.size≤18) (w:World) (ev:Value) (hv:w.cell? ⟨atoiRen.g 15,0,none⟩ = some ev) (hev:ev = .nilIface∨∃ te pe,ev = .iface te pe) :
  Calls Tryz.prog 227 #[.string s] w fun e w' => (match Lib.atoi s.data.toList with
   | some n => e = .returned (.tuple #[.int .i64 n,.nilIface])
   | none => ∃ t p,e = .returned (.tuple #[.int .i64 0,.iface t p]))∧Below w.heap.size w w':=by
 cases h:Lib.atoi s.data.toList with
 | some n =>
  refine (Any.strconv_Atoi (P:=Tryz.prog) (ρ:=atoiRen) { atoiLays with } s n hl h w).mono ?_
  rintro e w' ⟨rfl,t,rfl⟩
  exact ⟨rfl,Lib.bytesWorld_below _ _ _⟩
 | none =>
  refine (Any.strconv_Atoi_err (P:=Tryz.prog) (ρ:=atoiRen) atoiLays s hl h ev w hv hev).mono ?_
  rintro e w' ⟨M,rfl,_,_,hb⟩
  exact ⟨⟨_,_,rfl⟩,hb⟩
end Go.Eb
namespace Go.Ec
open Go.RowKit Go.Proofs Go.Proofs.YtlmicldpfnmeaaaGreatDoorW.PrintWords Go.Proofs.YtlmicldpfnmeaaaGreatDoorW.PrintLast Go.Proofs.YtlmicldpfnmeaaaGreatDoorW.PrintMore
theorem info3:(Tryz.prog.info? 3).map (fun i => (i.zero,i.size,i.bytes)) = some (some (.int .i64 0),1,8):=by kernel_rfl
section
variable {P:Program} {ops:Array Oper} {rest:List Oper} {o:Oper} {a:Act} {Q:Exit→Act→World→Prop} {W:World}
theorem Z5L (hgd:o.guard = none) (s x:Operand) (t1 t2:TypeId) (ho:o.op = .call { callee:=.builtin .append,args:=#[s,x],argTypes:=#[t1,t2] }) {v u v1:Value} {w1:World} (hs:a.eval s = v) (hx:a.eval x = u)
  (hr:(Builtin.append_ #[t1,t2] o.type #[v,u]).run P W = .ok v1 w1) (h:wpList P ops Q rest (a.put o.dst v1) w1):wpList P ops Q (o::rest) a W :=
 wpList_plain hgd fun K hK => by
  unfold Oper.wp execOp
  simp only [ho,resolve,invoke,builtin,Sem.run_bind,Sem.run_pure,Result.andThen_ok,List.map_toArray,List.map_cons,List.map_nil,hs,hx,hr]
  exact hK _ _ h
end
set_option maxHeartbeats 1000000 in
set_option maxRecDepth 100000 in
theorem grow_nil (W:World) (n:Nat) (hbig:n * 8≤140737488355328):Calls Tryz.prog 232 #[.slice none 0 0,.int .i64 n] W fun e w' => ∃ v,e = .returned v∧Kd.R (Kd.int .i64) 3 w' W.heap.size (fun _ => True) v []∧Below W.heap.size W w':=by
 obtain ⟨i0,hi,hzz⟩:=Option.map_eq_some_iff.1 (show (Tryz.prog.info? 3).map (fun i => (i.zero,i.size,i.bytes)) = some (some (.int .i64 0),1,8) by kernel_rfl)
 simp only [Prod.mk.injEq] at hzz
 obtain ⟨hz0,hz1,hz2⟩:=hzz
 have hu:=Tryz.underlying25
 have hu3:=Tryz.underlying3
 obtain ⟨v1,w1,hrun,hown,hg,-⟩:=Zar (P:=Tryz.prog) W W.heap.size 25 3 25 3 i0 (.int .i64 0) 1 8 hu hu3 hi hz0 hz1 hz2 rfl (by omega) (by omega) (.slice none 0 0) 0 [] (own_nil _ _ _ _) .i64 n (fun u hu => by simp [Builtin.zeroCells,Value.cells] at hu;obtain ⟨a,ha,rfl⟩:=hu;rw [Nat.mod_one];rfl) (by omega) (Nat.le_refl _)
 obtain ⟨A,c,rfl⟩:=own_slice hown
 have hnc:0 + n≤c:=by
  rcases hown.2 with ⟨e,e0⟩ | ⟨g,cap,cur,e,-,-,hle,-⟩
  ·injection e with _ _ e;omega
  ·injection e with _ _ e;omega
 have HT:=Aside0.mk (own_take hown (Nat.zero_le _))
 have HB:=Aside0.mk ((Below.refl W.heap.size W).grown hg (Nat.le_refl _) (fun k hk => by cases hk))
 have HRUN:=Aside0.mk hrun
 clear hrun hown hg hi hz0 hz1 hz2
 by_cases hn:0 < n
 ·have hn1:¬ (n:Int) < 0:=by omega
  have hn2:(n:Int) > 0:=by omega
  have hn3:IntKind.i64.wrap ((n:Int) - 0) = n:=by rw [IntKind.wrap_i64];omega
  go_enter Tryz.func232,Tryz.ntmps232
  go_wp2_with (at_builtin;refine Z5L rfl _ _ 25 3 rfl rfl rfl HRUN.out ?_)
  go_ret
  refine ⟨_,rfl,⟨fun _ _ => trivial,[],?_,Reps.none _ _⟩,HB.out⟩
  exact HT.out
 ·obtain rfl:n = 0:=by omega
  clear HT HB HRUN
  go_enter Tryz.func232,Tryz.ntmps232
  go_wp2
  go_ret
  exact ⟨_,rfl,Kd.R_nil _ _ _ _ _,Below.refl _ _⟩
def Z6b (xss:List (List Int)) (j:Nat):Nat:=(xss.take j).flatten.length
theorem Zd5 {xss:List (List Int)} {j:Nat} {xs:List Int} (h:xss[j]? = some xs):(xss.take (j + 1)).flatten = (xss.take j).flatten++xs:=by
 rw [List.take_add_one,h];simp
theorem Zds (xss:List (List Int)) (j:Nat):Z6b xss j≤xss.flatten.length:=by
 have h:=congrArg (fun l => l.flatten.length) (List.take_append_drop j xss)
 simp only [List.flatten_append,List.length_append] at h
 unfold Z6b
 omega
set_option maxHeartbeats 2000000 in
set_option maxRecDepth 100000 in
theorem concat_calls (W:World) (A:Addr) (c:Nat) (xss:List (List Int)) (hcell:∀ j xs,xss[j]? = some xs→∃ a c,W.cell? (A.add j) = some (.slice a xs.length c)∧Kd.C (Kd.int .i64) W a xs.length xs)
  (hbig:xss.flatten.length * 8≤140737488355328) (hm:xss.length≤1000) (hc:xss.length≤c) :
  Calls Tryz.prog 223 #[.slice (some A) xss.length c] W fun e w' => ∃ v,e = .returned v∧Kd.R (Kd.int .i64) 3 w' W.heap.size (fun _ => True) v xss.flatten∧Below W.heap.size W w':=by
 have HC:=Aside0.mk hcell
 have HB:=Aside0.mk (Below.refl W.heap.size W)
 clear hcell
 go_enter Tryz.func223,Tryz.ntmps223
 go_wp2
 go_loopg [3,11] xss.length (fun kx v3 v11 wr => ∃ j:Nat,v3 = .int .i64 ((Z6b xss j:Nat):Int)∧v11 = .int .i64 j∧j≤xss.length∧xss.length - j≤kx∧Aside0 (Below W.heap.size W wr))
 case atStart => exact ⟨0,rfl,rfl,Nat.zero_le _,by omega,HB⟩
 case round =>
  clear HB
  obtain ⟨j,rfl,rfl,hj,hjk,HB⟩:=hrel
  by_cases hlt:j < xss.length
  ·obtain ⟨xs,hx⟩:∃ xs,xss[j]? = some xs:=⟨_,List.getElem?_eq_getElem hlt⟩
   obtain ⟨a,cx,hq,hrow⟩:=HC.out j xs hx
   have hq_0:=Z49 HB.out hq
   have hps:=congrArg List.length (Zd5 hx)
   have hpl:=Zds xss (j + 1)
   rw [List.length_append] at hps
   have hpn:((Z6b xss j:Nat):Int) + (xs.length:Int) = ((Z6b xss (j + 1):Nat):Int):=by unfold Z6b;omega
   have hpw:IntKind.i64.wrap (((Z6b xss j:Nat):Int) + (xs.length:Int)) = ((Z6b xss (j + 1):Nat):Int):=by rw [hpn,IntKind.wrap_i64];omega
   have hp0:¬ ((Z6b xss (j + 1):Nat):Int) < 0:=by omega
   clear hq hrow hx hps
   go_wp2
   go_roundg (xss.length - (j + 1))
   case measure => omega
   case rel => exact ⟨j + 1,rfl,rfl,by omega,Nat.le_refl _,HB⟩
  ·obtain rfl:j = xss.length:=by omega
   have hle:Z6b xss xss.length * 8≤140737488355328:=by have:=Zds xss xss.length;omega
   go_wp2_with (go_at_call 232;refine (grow_nil _ (Z6b xss xss.length) hle).mono ?_;rintro e w1 ⟨v0,rfl,hO,hb⟩;have HO:=Aside0.mk (Kd.R_lower hO (Zdf HB.out));clear hO;have HB1:=Aside0.mk (below_step HB.out hb);clear hb)
   go_loopg [6,27] xss.length (fun kx v6 v27 wr => ∃ j:Nat,v27 = .int .i64 j∧j≤xss.length∧xss.length - j≤kx∧Aside0 (Kd.R (Kd.int .i64) 3 wr W.heap.size (fun _ => True) v6 (xss.take j).flatten)∧Aside0 (Below W.heap.size W wr))
   case atStart => exact ⟨0,rfl,Nat.zero_le _,by omega,⟨HO.out⟩,HB1⟩
   case round =>
    clear HB HB1 HO
    obtain ⟨j,rfl,hj,hjk,HO,HB⟩:=hrel
    obtain ⟨A6,c6,rfl⟩:=Kd.R_slice HO.out
    by_cases hlt:j < xss.length
    ·obtain ⟨xs,hx⟩:∃ xs,xss[j]? = some xs:=⟨_,List.getElem?_eq_getElem hlt⟩
     obtain ⟨a,cx,hq,hrow⟩:=HC.out j xs hx
     have hq_0:=Z49 HB.out hq
     have hps:=Zd5 hx
     have hpl:=Zds xss (j + 1)
     have HROW:=Aside0.mk (Kd.C_below hrow HB.out)
     have HPS:=Aside0.mk hps
     have hpl2:((xss.take j).flatten.length + xs.length) * 8≤140737488355328:=by rw [←List.length_append,←hps];unfold Z6b at hpl;omega
     clear hq hrow hx hps hpl hle
     have HL:=Aside0.mk hpl2
     clear hpl2
     go_wp2_with (at_builtin;refine Kd.R_append_rows (Kd.int .i64) (w0:=W) W.heap.size rfl _ _ 25 3 _ 8 rfl Tryz.underlying25 info3 rfl (by decide) (by omega) _ (xss.take j).flatten xs _ _ _ (fun _ => True) (fun _ => False) rfl rfl HO.out HROW.out (fun _ _ h => h) (fun _ h => h.elim) (fun _ _ => trivial) HB.out (Zdf HB.out) HL.out ?_;intro v1 w2 ho hb hg hat;rw [←HPS.out] at ho;replace HO:=Aside0.mk ho;replace HB:=Aside0.mk hb;clear ho hb hg hat)
     go_roundg (xss.length - (j + 1))
     case measure => omega
     case rel => exact ⟨j + 1,rfl,by omega,Nat.le_refl _,HO,HB⟩
    ·obtain rfl:j = xss.length:=by omega
     have HE:=Aside0.mk (List.take_length (l:=xss))
     go_wp2
     go_ret
     exact ⟨_,rfl,by show Kd.R _ _ _ _ _ (.slice A6 (xss.take xss.length).flatten.length c6) _;have:=HO.out;rw [HE.out] at this ⊢;exact this,HB.out⟩
end Go.Ec
