/- From the law's contract to its call; what an argument that can be read as data is. No conditions but those that each statement names. By this repo's programs; comments are taken out. -/
import Derived.ProofKit
import Derived.SizedLaws
import Derived.ChangeArms
import Derived.DataReads
import Derived.Deep.Slices
import Derived.Test.YtlmicldpfnmeaaaGreatDoorVFnComesBackEd
import Derived.Test.YtlmicldpfnmeaaaGreatDoorVFnComesBackW
import Derived.Test.YtlmicldpfnmeaaaGreatDoorVFnComesBackC19
set_option linter.all false
namespace Go.Ev
open Go.RowKit Go.Proofs Go.Proofs.YtlmicldpfnmeaaaGreatDoorW.PrintWords Go.Proofs.YtlmicldpfnmeaaaGreatDoorW.PrintLast Go.Proofs.YtlmicldpfnmeaaaGreatDoorW.PrintMore
def KR {α:Type} (d:Kd α) (c:α→List CV):Prop:=∀ (w:World) (x:α) (cs:List Value),d.K w x cs→cs.length = (c x).length∧∀ (k:Nat) (v:Value) (a:CV),cs[k]? = some v→(c x)[k]? = some a→RepC w (full w) v a
theorem full_lt {w:World} {b p:Nat} {u:Value} (h:w.cell? ⟨b,p,none⟩ = some u):p < full w b:=by
 unfold World.cell? at h
 split at h
 ·rename_i c e q hc
  simp only [Option.isSome_none,Bool.false_eq_true,if_false] at h
  unfold full
  rw [show w.heap[b]? = _ from hc]
  have:=(Array.getElem?_eq_some_iff.1 h).1
  exact Nat.lt_succ_of_lt this
 ·cases h
theorem KR_row {α:Type} {d:Kd α} {c:α→List CV} {sh:List Sh} (h:KR d c) (hsh:∀ x,(c x).map CV.sh = sh) (hsz:sh.length = d.sz) (hpos:0 < d.sz) {w:World} {A:Option Addr} {l:List α} {cap:Nat} (hC:d.C w A l.length l) (hc:l.length≤cap) :
  RepC w (full w) (.slice A l.length cap) (.sl sh (l.map c)):=by
 have hlen:(l.map c).length = l.length:=List.length_map _
 rw [←hlen]
 cases l with
 | nil => exact RepC.sl A cap sh [] (fun _ _ => undef) 0 0 (Nat.zero_le _) (fun _ h => by cases h) (fun h => absurd rfl h) (fun j row k cv hj => by simp at hj) (fun j row k cv hj => by simp at hj)
 | cons x l =>
  obtain ⟨_,_,h2⟩:=hC
  obtain ⟨⟨b,o,sp⟩,rfl,hcell⟩:=h2 (Nat.zero_lt_succ _)
  obtain ⟨c0,hl0,_,hc0⟩:=hcell 0 x rfl
  have hsp:sp = none:=by
   have h3:=hc0 0 _ (List.getElem?_eq_getElem (by omega))
   have e0:(⟨b,o,sp⟩:Addr).add (0 * d.sz + 0) = ⟨b,o,sp⟩:=by simp [Addr.add]
   rw [e0] at h3
   unfold World.cell? at h3
   split at h3
   ·split at h3
    ·cases h3
    ·rename_i hs
     cases sp with
     | none => rfl
     | some s => exact absurd rfl hs
   ·cases h3
  subst hsp
  have key:∀ j row k cv,((x::l).map c)[j]? = some row→row[k]? = some cv→∃ u,w.cell? ⟨b,o + (j * sh.length + k),none⟩ = some u∧RepC w (full w) u cv:=fun j row k cv hj hk => by
   rw [List.getElem?_map,Option.map_eq_some_iff] at hj
   obtain ⟨p,hp,rfl⟩:=hj
   obtain ⟨cs,hl,hK,hcs⟩:=hcell j p hp
   obtain ⟨e1,e2⟩:=h w p cs hK
   have hk1:=(List.getElem?_eq_some_iff.1 hk).1
   have hk2:cs[k]? = some cs[k]:=List.getElem?_eq_getElem (by omega)
   refine ⟨_,?_,e2 k _ cv hk2 hk⟩
   rw [←Z4K,hsz]
   exact hcs k _ hk2
  exact RepC.sl _ cap sh _ (fun j k => (w.cell? ⟨b,o + (j * sh.length + k),none⟩).getD undef) b o (by rw [hlen];exact hc) (fun row hr => by obtain ⟨p,_,rfl⟩:=List.mem_map.1 hr;exact hsh p) (fun _ => rfl)
   (fun j row k cv hj hk => by
    obtain ⟨u,hu,_⟩:=key j row k cv hj hk
    exact ⟨full_lt hu,by rw [hu];rfl⟩)
   (fun j row k cv hj hk => by
    obtain ⟨u,hu,hr⟩:=key j row k cv hj hk
    rw [hu];exact hr)
theorem KR_int (k:IntKind):KR (Kd.int k) (fun n => [.int k n]):=fun w x cs h => by
 obtain rfl:cs = [.int k x]:=h
 exact ⟨rfl,fun j v a hv ha => by cases j <;> simp at hv ha;subst hv;subst ha;exact .int _ _⟩
theorem calls_of_con {P:Program} {T:TBs} {f:FuncId} {az:List AV} {r:AV} (h:Con P T f az [] r [] []) (w:World) (hT:T.T w (full w)) (vs:List Value) (hl:vs.length = az.length)
  (ha:∀ k c,az[k]? = some c→Rep1 w ⟨fun _ => 0,fun _ => undef,full w⟩ (obIn []) (vs.getD k undef) c) {b:Bool} (hr:r = .c (.bool b)):Calls P f vs.toArray w fun e w' => e = .returned (.bool b)∧Below w.heap.size w w':=by
 refine (h.2 w ⟨fun _ => 0,fun _ => undef,full w⟩ vs (full_gz w) hT hl (fun o x ho => by rw [Z7W] at ho;cases ho) (fun o o' x x' b ho => by rw [Z7W] at ho;cases ho) ha).mono ?_
 rintro e w' ⟨v,g',rfl,R⟩
 subst hr
 refine ⟨by rw [Z8C R.val],R.grow.os,R.grow.tape,R.grow.output,R.grow.size,fun k hk => R.grow.block k hk (fun hB => ?_)⟩
 obtain ⟨o,x,ho,_⟩:=hB
 rw [Z7W] at ho;cases ho
end Go.Ev
namespace Go.Ev
open Go.RowKit Go.Proofs Go.Proofs.YtlmicldpfnmeaaaGreatDoorW.PrintWords Go.Proofs.YtlmicldpfnmeaaaGreatDoorW.PrintLast Go.Proofs.YtlmicldpfnmeaaaGreatDoorW.PrintMore
theorem laws_FnComesBack.calls (k:Nat) (A0_0:Option Addr) (c0_0:Nat) (l0_0:List (Int)) (r:Bool) (w:World) (hr0_0:Kd.C (Kd.int .u8) w A0_0 l0_0.length l0_0) (hc0_0:l0_0.length≤c0_0) (h:laws_FnComesBack.f k l0_0 = some r) (hT:TBX.T w (full w)) :
  Calls Tryz.prog 11 #[.slice A0_0 l0_0.length c0_0] w fun e w' => e = .returned (.bool r)∧Below w.heap.size w w':=by
 refine calls_of_con (laws_FnComesBack.con E0 rfl h) w hT [.slice A0_0 l0_0.length c0_0] rfl (fun j c hj => ?_) rfl
 rcases j with _ | j
 ·obtain rfl:=Option.some.inj hj;exact KR_row (KR_int .u8) (fun _ => rfl) rfl (by decide) hr0_0 hc0_0
 cases hj
end Go.Ev
namespace Go.Proofs.YtlmicldpfnmeaaaGreatDoor.Args
open Go.Proofs.YtlmicldpfnmeaaaGreatDoorW.PrintWords
def Opens (P:Program) (t:TypeId) {α:Type} (d:Kd α) (Q:α→Prop):Prop :=
 ∀ {H:Type} (enc:TypeId×Value→H) (W:World) (fuel:Nat) (cs:List Value) (x:DataW H×List MemPlace),
  DataW.trod enc P W 0 (fun _ => true) true fuel t cs = some x→(∀ n∈x.1.weights P t,n≤reachBytes)→∃ a,d.K W a cs∧Q a
section
variable {P:Program} {t e:TypeId}
theorem opens_int {k:IntKind} (hu:P.underlying t = some (.int k)):Opens P t (Kd.int k) (fun n => (Lit.int k n).wf = true):=by
 intro H enc W fuel cs x h _
 obtain ⟨n,rfl,rfl,hn⟩:=DataW.trod_int hu h
 exact ⟨n,rfl,hn⟩
theorem Zbw {H:Type}:∀ (l:List (DataW H)) (d:DataW H),d∈l→∀ n∈d.weights P e,n∈DataW.weightsAll P e l
 | [],_,hd,_,_ => by cases hd
 | d0::l,d,hd,n,hn => by
  rw [DataW.weightsAll,List.mem_append]
  rcases List.mem_cons.1 hd with rfl | hd
  ·exact Or.inl hn
  ·exact Or.inr (Zbw l d hd n hn)
theorem opens_slice {α:Type} {d:Kd α} {Q:α→Prop} {B:Nat} (hu:P.underlying t = some (.slice e)) (hc:P.cellsOf e = d.sz) (hB:P.bytesOf e = B) (h:Opens P e d Q) :
  Opens P t (Kd.slice e d) (fun l => l.length * B≤140737488351232∧∀ x∈l,Q x):=by
 intro H enc W fuel cs x hx hw
 rcases DataW.trod_slice hu hx with ⟨rfl,rfl⟩ | ⟨a,len,cap,elems,rest,n,rfl,rfl,rfl,_,hl,hm,hel,hat,_,_⟩
 ·exact ⟨[],⟨none,0,rfl,Nat.le_refl _,⟨rfl,by simp,fun h => absurd h (by simp)⟩⟩,by simp,fun x hx => by cases hx⟩
 ·have each:∀ i,i < len→∃ y,(∃ c,d.K W y c∧c.length = d.sz∧∀ j u,c[j]? = some u→W.cell? (a.add (i * d.sz + j)) = some u)∧Q y:=by
   intro i hi
   have h1:=hat i hi
   rw [List.getElem?_eq_getElem (by omega)] at h1
   obtain ⟨c,h2,h3⟩:=Option.bind_eq_some_iff.1 h1
   obtain ⟨_,hlen,hcell⟩:=World.cells?_some h2
   have hmem:(elems[i]'(by omega)).1∈elems.map (·.1):=List.mem_map_of_mem (List.getElem_mem _)
   obtain ⟨y,hy,hq⟩:=h enc W n c _ h3 (fun m hm => hw m (by
    simp only [DataW.weights,hu,List.mem_cons,List.mem_append]
    exact Or.inr (Or.inl (Zbw _ _ hmem m hm))))
   refine ⟨y,⟨c,hy,by rw [hlen,hc],fun j u hj => ?_⟩,hq⟩
   have hjl:j < c.length:=by
    rcases Nat.lt_or_ge j c.length with h4 | h4
    ·exact h4
    ·rw [List.getElem?_eq_none h4] at hj;cases hj
   rw [←hc,←Deep.add_add,hcell j (by omega)]
   exact hj
  have pick:∀ m,m≤len→∃ ys:List α,ys.length = m∧(∀ y∈ys,Q y)∧∀ j p,ys[j]? = some p→∃ c,c.length = d.sz∧d.K W p c∧∀ i u,c[i]? = some u→W.cell? (a.add (j * d.sz + i)) = some u:=by
   intro m
   induction m with
   | zero => exact fun _ => ⟨[],rfl,(fun y hy => by cases hy),(fun j p hp => by simp at hp)⟩
   | succ m ih =>
    intro hm
    obtain ⟨ys,hy,hq,hr⟩:=ih (by omega)
    obtain ⟨y,⟨c,hk,hcl,hcc⟩,hqy⟩:=each m (by omega)
    refine ⟨ys++[y],by simp [hy],fun z hz => ?_,fun j p hp => ?_⟩
    ·rcases List.mem_append.1 hz with hz | hz
     ·exact hq z hz
     ·rw [List.mem_singleton.1 hz];exact hqy
    ·rcases Nat.lt_or_ge j ys.length with h5 | h5
     ·rw [List.getElem?_append_left h5] at hp
      exact hr j p hp
     ·rw [List.getElem?_append_right h5] at hp
      have hj:j - ys.length = 0:=by
       rcases Nat.eq_zero_or_pos (j - ys.length) with h6 | h6
       ·exact h6
       ·rw [List.getElem?_eq_none (by simp;omega)] at hp;cases hp
      rw [hj] at hp
      simp only [List.getElem?_cons_zero,Option.some.injEq] at hp
      subst hp
      obtain rfl:j = m:=by omega
      exact ⟨c,hcl,hk,hcc⟩
  obtain ⟨ys,hy,hq,hr⟩:=pick len (Nat.le_refl _)
  refine ⟨ys,⟨some a,cap,by rw [hy],by omega,⟨rfl,by unfold maxLen at hm;omega,fun _ => ⟨a,rfl,hr⟩⟩⟩,?_,hq⟩
  have h7:=hw _ (by simp only [DataW.weights,hu];exact List.mem_cons_self)
  rw [hB,List.length_map] at h7
  rw [hy,←hel]
  exact Nat.le_trans (Nat.mul_le_mul_right _ (Nat.le_add_right _ _)) h7
theorem Opens.mono {α:Type} {d:Kd α} {Q Q':α→Prop} (h:Opens P t d Q) (hq:∀ a,Q a→Q' a):Opens P t d Q':=by
 intro H enc W fuel cs x hx hw
 obtain ⟨a,ha,h1⟩:=h enc W fuel cs x hx hw
 exact ⟨a,ha,hq a h1⟩
end
end Go.Proofs.YtlmicldpfnmeaaaGreatDoor.Args
