/- From the law's contract to its call; what an argument that can be read as data is. No conditions but those that each statement names. By this repo's programs; comments are taken out. -/
import Derived.ProofKit
import Derived.SizedLaws
import Derived.ChangeArms
import Derived.DataReads
import Derived.Deep.Slices
import Derived.Test.YtlmicldpfnmeaaaGreatDoorVFnExactInstallShelfEd
import Derived.Test.YtlmicldpfnmeaaaGreatDoorVFnExactInstallShelfW
import Derived.Test.YtlmicldpfnmeaaaGreatDoorVFnExactInstallShelfC10
set_option linter.all false
namespace Go.Ev
open Go.RowKit Go.Proofs Go.Proofs.YtlmicldpfnmeaaaGreatDoorW.PrintWords Go.Proofs.YtlmicldpfnmeaaaGreatDoorW.PrintLast Go.Proofs.YtlmicldpfnmeaaaGreatDoorW.PrintMore
def KR {α:Type} (d:Kd α) (c:α→List CV):Prop:=∀ (w:World) (x:α) (cs:List Value),d.K w x cs→cs.length = (c x).length∧∀ (k:Nat) (v:Value) (a:CV),cs[k]? = some v→(c x)[k]? = some a→RepC w (full w) v a
theorem full_lt {w:World} {b p:Nat} {u:Value} (h:w.cell? ⟨b,p,none⟩ = some u):p < full w b:=by
 unfold World.cell? at h
 split at h
 ·rename_i c e q hc
  simp only [Option.isSome_none,Bool.false_eq_true,if_false] at h
  unfold full
  rw [show w.heap[b]? = _ from hc]
  have:=(Array.getElem?_eq_some_iff.1 h).1
  exact Nat.lt_succ_of_lt this
 ·cases h
theorem KR_row {α:Type} {d:Kd α} {c:α→List CV} {sh:List Sh} (h:KR d c) (hsh:∀ x,(c x).map CV.sh = sh) (hsz:sh.length = d.sz) (hpos:0 < d.sz) {w:World} {A:Option Addr} {l:List α} {cap:Nat} (hC:d.C w A l.length l) (hc:l.length≤cap) :
  RepC w (full w) (.slice A l.length cap) (.sl sh (l.map c)):=by
 have hlen:(l.map c).length = l.length:=List.length_map _
 rw [←hlen]
 cases l with
 | nil => exact RepC.sl A cap sh [] (fun _ _ => undef) 0 0 (Nat.zero_le _) (fun _ h => by cases h) (fun h => absurd rfl h) (fun j row k cv hj => by simp at hj) (fun j row k cv hj => by simp at hj)
 | cons x l =>
  obtain ⟨_,_,h2⟩:=hC
  obtain ⟨⟨b,o,sp⟩,rfl,hcell⟩:=h2 (Nat.zero_lt_succ _)
  obtain ⟨c0,hl0,_,hc0⟩:=hcell 0 x rfl
  have hsp:sp = none:=by
   have h3:=hc0 0 _ (List.getElem?_eq_getElem (by omega))
   have e0:(⟨b,o,sp⟩:Addr).add (0 * d.sz + 0) = ⟨b,o,sp⟩:=by simp [Addr.add]
   rw [e0] at h3
   unfold World.cell? at h3
   split at h3
   ·split at h3
    ·cases h3
    ·rename_i hs
     cases sp with
     | none => rfl
     | some s => exact absurd rfl hs
   ·cases h3
  subst hsp
  have key:∀ j row k cv,((x::l).map c)[j]? = some row→row[k]? = some cv→∃ u,w.cell? ⟨b,o + (j * sh.length + k),none⟩ = some u∧RepC w (full w) u cv:=fun j row k cv hj hk => by
   rw [List.getElem?_map,Option.map_eq_some_iff] at hj
   obtain ⟨p,hp,rfl⟩:=hj
   obtain ⟨cs,hl,hK,hcs⟩:=hcell j p hp
   obtain ⟨e1,e2⟩:=h w p cs hK
   have hk1:=(List.getElem?_eq_some_iff.1 hk).1
   have hk2:cs[k]? = some cs[k]:=List.getElem?_eq_getElem (by omega)
   refine ⟨_,?_,e2 k _ cv hk2 hk⟩
   rw [←add_at,hsz]
   exact hcs k _ hk2
  exact RepC.sl _ cap sh _ (fun j k => (w.cell? ⟨b,o + (j * sh.length + k),none⟩).getD undef) b o (by rw [hlen];exact hc) (fun row hr => by obtain ⟨p,_,rfl⟩:=List.mem_map.1 hr;exact hsh p) (fun _ => rfl)
   (fun j row k cv hj hk => by
    obtain ⟨u,hu,_⟩:=key j row k cv hj hk
    exact ⟨full_lt hu,by rw [hu];rfl⟩)
   (fun j row k cv hj hk => by
    obtain ⟨u,hu,hr⟩:=key j row k cv hj hk
    rw [hu];exact hr)
theorem KR_int (k:IntKind):KR (Kd.int k) (fun n => [.int k n]):=fun w x cs h => by
 obtain rfl:cs = [.int k x]:=h
 exact ⟨rfl,fun j v a hv ha => by cases j <;> simp at hv ha;subst hv;subst ha;exact .int _ _⟩
theorem KR_string:KR Kd.string (fun s => [.str s]):=fun w x cs h => by
 obtain rfl:cs = [.string x]:=h
 exact ⟨rfl,fun j v a hv ha => by cases j <;> simp at hv ha;subst hv;subst ha;exact .str _⟩
theorem KR_pair {α β:Type} {a:Kd α} {b:Kd β} {c:α→List CV} {c':β→List CV} (h:KR a c) (h':KR b c'):KR (Kd.pair a b) (fun x => c x.1++c' x.2):=fun w x cs hK => by
 obtain ⟨c0,c1,rfl,k0,k1⟩:=hK
 obtain ⟨l0,e0⟩:=h w x.1 c0 k0
 obtain ⟨l1,e1⟩:=h' w x.2 c1 k1
 refine ⟨by rw [List.length_append,List.length_append,l0,l1],fun k v a hv ha => ?_⟩
 rcases Nat.lt_or_ge k c0.length with hk | hk
 ·rw [List.getElem?_append_left hk] at hv
  rw [List.getElem?_append_left (by omega)] at ha
  exact e0 k v a hv ha
 ·rw [List.getElem?_append_right hk] at hv
  rw [List.getElem?_append_right (by omega),←l0] at ha
  exact e1 _ v a hv ha
theorem KR_iso {α β:Type} {d:Kd α} {f:β→α} {c:α→List CV} {c':β→List CV} (h:KR d c) (hc:∀ x,c' x = c (f x)):KR (Kd.iso d f) c':=fun w x cs hK => by
 rw [hc];exact h w (f x) cs hK
theorem calls_of_con {P:Program} {T:TBs} {f:FuncId} {az:List AV} {r:AV} (h:Con P T f az [] r [] []) (w:World) (hT:T.T w (full w)) (vs:List Value) (hl:vs.length = az.length)
  (ha:∀ k c,az[k]? = some c→Rep1 w ⟨fun _ => 0,fun _ => undef,full w⟩ (obIn []) (vs.getD k undef) c) {b:Bool} (hr:r = .c (.bool b)):Calls P f vs.toArray w fun e w' => e = .returned (.bool b)∧Below w.heap.size w w':=by
 refine (h.2 w ⟨fun _ => 0,fun _ => undef,full w⟩ vs (full_gz w) hT hl (fun o x ho => by rw [obIn_nil] at ho;cases ho) (fun o o' x x' b ho => by rw [obIn_nil] at ho;cases ho) ha).mono ?_
 rintro e w' ⟨v,g',rfl,R⟩
 subst hr
 refine ⟨by rw [repC_bool R.val],R.grow.os,R.grow.tape,R.grow.output,R.grow.size,fun k hk => R.grow.block k hk (fun hB => ?_)⟩
 obtain ⟨o,x,ho,_⟩:=hB
 rw [obIn_nil] at ho;cases ho
end Go.Ev
namespace Go.Ev
open Go.RowKit Go.Proofs Go.Proofs.YtlmicldpfnmeaaaGreatDoorW.PrintWords Go.Proofs.YtlmicldpfnmeaaaGreatDoorW.PrintLast Go.Proofs.YtlmicldpfnmeaaaGreatDoorW.PrintMore
def k171:Kd S171:=Kd.iso (Kd.pair (Kd.string) (Kd.string)) (fun x => (x.f0,x.f1))
theorem KR_171:KR k171 c171:=KR_iso (KR_pair (KR_string) (KR_string)) (fun x => rfl)
def k173:Kd S173:=Kd.iso (Kd.pair (Kd.string) (Kd.pair (Kd.int .i64) (Kd.pair (Kd.int .i64) (Kd.int .i64)))) (fun x => (x.f0,x.f1,x.f2,x.f3))
theorem KR_173:KR k173 c173:=KR_iso (KR_pair (KR_string) (KR_pair (KR_int .i64) (KR_pair (KR_int .i64) (KR_int .i64)))) (fun x => rfl)
theorem laws_FnExactInstallShelf.calls (k:Nat) (A0_0:Option Addr) (c0_0:Nat) (l0_0:List S171) (A1_0:Option Addr) (c1_0:Nat) (l1_0:List (Int)) (a1_1:Int) (a1_2:Int) (a1_3:Int) (A1_4:Option Addr) (c1_4:Nat) (l1_4:List (Int)) (A1_5:Option Addr) (c1_5:Nat) (l1_5:List S173) (a1_6:Int) (a2_0:ByteArray) (a3_0:Int) (a4_0:Int) (A5_0:Option Addr) (c5_0:Nat) (l5_0:List (Int)) (r:Bool) (w:World) (hr0_0:Kd.C (k171) w A0_0 l0_0.length l0_0) (hc0_0:l0_0.length≤c0_0) (hr1_0:Kd.C (Kd.int .i64) w A1_0 l1_0.length l1_0) (hc1_0:l1_0.length≤c1_0) (hr1_4:Kd.C (Kd.int .i64) w A1_4 l1_4.length l1_4) (hc1_4:l1_4.length≤c1_4) (hr1_5:Kd.C (k173) w A1_5 l1_5.length l1_5) (hc1_5:l1_5.length≤c1_5) (hr5_0:Kd.C (Kd.int .i64) w A5_0 l5_0.length l5_0) (hc5_0:l5_0.length≤c5_0) (h:laws_FnExactInstallShelf.f k l0_0 l1_0 a1_1 a1_2 a1_3 l1_4 l1_5 a1_6 a2_0 a3_0 a4_0 l5_0 = some r) (hT:TBX.T w (full w)) :
  Calls Tryz.prog 7 #[.agg #[.slice A0_0 l0_0.length c0_0],.agg #[.slice A1_0 l1_0.length c1_0,.int .i64 a1_1,.int .i64 a1_2,.int .i64 a1_3,.slice A1_4 l1_4.length c1_4,.slice A1_5 l1_5.length c1_5,.int .i64 a1_6],.string a2_0,.int .i64 a3_0,.int .i64 a4_0,.slice A5_0 l5_0.length c5_0] w fun e w' => e = .returned (.bool r)∧Below w.heap.size w w':=by
 refine calls_of_con (laws_FnExactInstallShelf.con E0 rfl h) w hT [.agg #[.slice A0_0 l0_0.length c0_0],.agg #[.slice A1_0 l1_0.length c1_0,.int .i64 a1_1,.int .i64 a1_2,.int .i64 a1_3,.slice A1_4 l1_4.length c1_4,.slice A1_5 l1_5.length c1_5,.int .i64 a1_6],.string a2_0,.int .i64 a3_0,.int .i64 a4_0,.slice A5_0 l5_0.length c5_0] rfl (fun j c hj => ?_) rfl
 rcases j with _ | j
 ·obtain rfl:=Option.some.inj hj
  refine ⟨#[.slice A0_0 l0_0.length c0_0],rfl,rfl,fun i c hi => ?_⟩
  rcases i with _ | i
  ·obtain rfl:=Option.some.inj hi;exact KR_row (KR_171) (fun _ => rfl) rfl (by decide) hr0_0 hc0_0
  cases hi
 rcases j with _ | j
 ·obtain rfl:=Option.some.inj hj
  refine ⟨#[.slice A1_0 l1_0.length c1_0,.int .i64 a1_1,.int .i64 a1_2,.int .i64 a1_3,.slice A1_4 l1_4.length c1_4,.slice A1_5 l1_5.length c1_5,.int .i64 a1_6],rfl,rfl,fun i c hi => ?_⟩
  rcases i with _ | i
  ·obtain rfl:=Option.some.inj hi;exact KR_row (KR_int .i64) (fun _ => rfl) rfl (by decide) hr1_0 hc1_0
  rcases i with _ | i
  ·obtain rfl:=Option.some.inj hi;exact RepC.int _ _
  rcases i with _ | i
  ·obtain rfl:=Option.some.inj hi;exact RepC.int _ _
  rcases i with _ | i
  ·obtain rfl:=Option.some.inj hi;exact RepC.int _ _
  rcases i with _ | i
  ·obtain rfl:=Option.some.inj hi;exact KR_row (KR_int .i64) (fun _ => rfl) rfl (by decide) hr1_4 hc1_4
  rcases i with _ | i
  ·obtain rfl:=Option.some.inj hi;exact KR_row (KR_173) (fun _ => rfl) rfl (by decide) hr1_5 hc1_5
  rcases i with _ | i
  ·obtain rfl:=Option.some.inj hi;exact RepC.int _ _
  cases hi
 rcases j with _ | j
 ·obtain rfl:=Option.some.inj hj;exact RepC.str _
 rcases j with _ | j
 ·obtain rfl:=Option.some.inj hj;exact RepC.int _ _
 rcases j with _ | j
 ·obtain rfl:=Option.some.inj hj;exact RepC.int _ _
 rcases j with _ | j
 ·obtain rfl:=Option.some.inj hj;exact KR_row (KR_int .i64) (fun _ => rfl) rfl (by decide) hr5_0 hc5_0
 cases hj
end Go.Ev
namespace Go.Proofs.YtlmicldpfnmeaaaGreatDoor.Args
open Go.Proofs.YtlmicldpfnmeaaaGreatDoorW.PrintWords
def Opens (P:Program) (t:TypeId) {α:Type} (d:Kd α) (Q:α→Prop):Prop :=
 ∀ {H:Type} (enc:TypeId×Value→H) (W:World) (fuel:Nat) (cs:List Value) (x:DataW H×List MemPlace),
  DataW.trod enc P W 0 (fun _ => true) true fuel t cs = some x→(∀ n∈x.1.weights P t,n≤reachBytes)→∃ a,d.K W a cs∧Q a
section
variable {P:Program} {t e:TypeId}
theorem opens_int {k:IntKind} (hu:P.underlying t = some (.int k)):Opens P t (Kd.int k) (fun n => (Lit.int k n).wf = true):=by
 intro H enc W fuel cs x h _
 obtain ⟨n,rfl,rfl,hn⟩:=DataW.trod_int hu h
 exact ⟨n,rfl,hn⟩
theorem opens_string (hu:P.underlying t = some .string):Opens P t Kd.string (fun s => s.size≤140737488351232):=by
 intro H enc W fuel cs x h hw
 obtain ⟨s,rfl,rfl,hs⟩:=DataW.trod_string hu h
 refine ⟨s,rfl,?_⟩
 have:=hw s.data.toList.length (by simp [DataW.weights])
 rw [Array.length_toList] at this
 exact this
theorem weights_all {H:Type}:∀ (l:List (DataW H)) (d:DataW H),d∈l→∀ n∈d.weights P e,n∈DataW.weightsAll P e l
 | [],_,hd,_,_ => by cases hd
 | d0::l,d,hd,n,hn => by
  rw [DataW.weightsAll,List.mem_append]
  rcases List.mem_cons.1 hd with rfl | hd
  ·exact Or.inl hn
  ·exact Or.inr (weights_all l d hd n hn)
theorem opens_slice {α:Type} {d:Kd α} {Q:α→Prop} {B:Nat} (hu:P.underlying t = some (.slice e)) (hc:P.cellsOf e = d.sz) (hB:P.bytesOf e = B) (h:Opens P e d Q) :
  Opens P t (Kd.slice e d) (fun l => l.length * B≤140737488351232∧∀ x∈l,Q x):=by
 intro H enc W fuel cs x hx hw
 rcases DataW.trod_slice hu hx with ⟨rfl,rfl⟩ | ⟨a,len,cap,elems,rest,n,rfl,rfl,rfl,_,hl,hm,hel,hat,_,_⟩
 ·exact ⟨[],⟨none,0,rfl,Nat.le_refl _,⟨rfl,by simp,fun h => absurd h (by simp)⟩⟩,by simp,fun x hx => by cases hx⟩
 ·have each:∀ i,i < len→∃ y,(∃ c,d.K W y c∧c.length = d.sz∧∀ j u,c[j]? = some u→W.cell? (a.add (i * d.sz + j)) = some u)∧Q y:=by
   intro i hi
   have h1:=hat i hi
   rw [List.getElem?_eq_getElem (by omega)] at h1
   obtain ⟨c,h2,h3⟩:=Option.bind_eq_some_iff.1 h1
   obtain ⟨_,hlen,hcell⟩:=World.cells?_some h2
   have hmem:(elems[i]'(by omega)).1∈elems.map (·.1):=List.mem_map_of_mem (List.getElem_mem _)
   obtain ⟨y,hy,hq⟩:=h enc W n c _ h3 (fun m hm => hw m (by
    simp only [DataW.weights,hu,List.mem_cons,List.mem_append]
    exact Or.inr (Or.inl (weights_all _ _ hmem m hm))))
   refine ⟨y,⟨c,hy,by rw [hlen,hc],fun j u hj => ?_⟩,hq⟩
   have hjl:j < c.length:=by
    rcases Nat.lt_or_ge j c.length with h4 | h4
    ·exact h4
    ·rw [List.getElem?_eq_none h4] at hj;cases hj
   rw [←hc,←Deep.add_add,hcell j (by omega)]
   exact hj
  have pick:∀ m,m≤len→∃ ys:List α,ys.length = m∧(∀ y∈ys,Q y)∧∀ j p,ys[j]? = some p→∃ c,c.length = d.sz∧d.K W p c∧∀ i u,c[i]? = some u→W.cell? (a.add (j * d.sz + i)) = some u:=by
   intro m
   induction m with
   | zero => exact fun _ => ⟨[],rfl,(fun y hy => by cases hy),(fun j p hp => by simp at hp)⟩
   | succ m ih =>
    intro hm
    obtain ⟨ys,hy,hq,hr⟩:=ih (by omega)
    obtain ⟨y,⟨c,hk,hcl,hcc⟩,hqy⟩:=each m (by omega)
    refine ⟨ys++[y],by simp [hy],fun z hz => ?_,fun j p hp => ?_⟩
    ·rcases List.mem_append.1 hz with hz | hz
     ·exact hq z hz
     ·rw [List.mem_singleton.1 hz];exact hqy
    ·rcases Nat.lt_or_ge j ys.length with h5 | h5
     ·rw [List.getElem?_append_left h5] at hp
      exact hr j p hp
     ·rw [List.getElem?_append_right h5] at hp
      have hj:j - ys.length = 0:=by
       rcases Nat.eq_zero_or_pos (j - ys.length) with h6 | h6
       ·exact h6
       ·rw [List.getElem?_eq_none (by simp;omega)] at hp;cases hp
      rw [hj] at hp
      simp only [List.getElem?_cons_zero,Option.some.injEq] at hp
      subst hp
      obtain rfl:j = m:=by omega
      exact ⟨c,hcl,hk,hcc⟩
  obtain ⟨ys,hy,hq,hr⟩:=pick len (Nat.le_refl _)
  refine ⟨ys,⟨some a,cap,by rw [hy],by omega,⟨rfl,by unfold maxLen at hm;omega,fun _ => ⟨a,rfl,hr⟩⟩⟩,?_,hq⟩
  have h7:=hw _ (by simp only [DataW.weights,hu];exact List.mem_cons_self)
  rw [hB,List.length_map] at h7
  rw [hy,←hel]
  exact Nat.le_trans (Nat.mul_le_mul_right _ (Nat.le_add_right _ _)) h7
def OpensFs (P:Program) (fs:List Field) (off:Nat) {α:Type} (d:Kd α) (Q:α→Prop):Prop :=
 ∀ {H:Type} (enc:TypeId×Value→H) (W:World) (fuel:Nat) (cs:List Value) (xs:List (DataW H×List MemPlace)),
  (∀ (i:Nat) (f:Field),fs[i]? = some f→DataW.trod enc P W 0 (fun _ => true) true fuel f.type ((cs.drop f.offset).take (P.cellsOf f.type)) = xs[i]?)→xs.length = fs.length→cs.length = off + d.sz →
  (∀ n∈DataW.weightsEach P (fs.map (·.type)) (xs.map (·.1)),n≤reachBytes)→∃ a,d.K W a (cs.drop off)∧Q a
theorem opensFs_one {α:Type} {d:Kd α} {Q:α→Prop} {f:Field} {off:Nat} (hf:f.offset = off) (hs:P.cellsOf f.type = d.sz) (h:Opens P f.type d Q):OpensFs P [f] off d Q:=by
 intro H enc W fuel cs xs hx hl hc hw
 obtain ⟨x,rfl⟩:∃ x,xs = [x]:=by
  match xs,hl with
  | [x],_ => exact ⟨x,rfl⟩
 have h0:=hx 0 f rfl
 rw [hf,hs,List.take_of_length_le (by rw [List.length_drop];omega)] at h0
 exact h enc W fuel _ _ h0 (fun n hn => hw n (by simp [DataW.weightsEach,hn]))
theorem opensFs_cons {α β:Type} {d:Kd α} {d':Kd β} {Q:α→Prop} {Q':β→Prop} {f:Field} {fs:List Field} {off:Nat} (hf:f.offset = off) (hs:P.cellsOf f.type = d.sz) (h:Opens P f.type d Q) (h':OpensFs P fs (off + d.sz) d' Q') :
  OpensFs P (f::fs) off (Kd.pair d d') (fun x => Q x.1∧Q' x.2):=by
 intro H enc W fuel cs xs hx hl hc hw
 obtain ⟨x,ys,rfl⟩:∃ x ys,xs = x::ys:=by
  match xs,hl with
  | x::ys,_ => exact ⟨x,ys,rfl⟩
 have h0:=hx 0 f rfl
 rw [hf,hs] at h0
 have hc:cs.length = off + (d.sz + d'.sz):=hc
 obtain ⟨a,ha,hq⟩:=h enc W fuel _ _ h0 (fun n hn => hw n (by simp only [List.map_cons,DataW.weightsEach,List.mem_append];exact Or.inl hn))
 obtain ⟨b,hb,hq'⟩:=h' enc W fuel cs ys (fun i g hg => hx (i + 1) g hg) (by simpa using hl) (by omega) (fun n hn => hw n (by simp only [List.map_cons,DataW.weightsEach,List.mem_append];exact Or.inr hn))
 refine ⟨(a,b),⟨(cs.drop off).take d.sz,cs.drop (off + d.sz),?_,ha,hb⟩,hq,hq'⟩
 rw [←List.drop_drop,List.take_append_drop]
theorem opens_struct {α:Type} {d:Kd α} {Q:α→Prop} {fs:Array Field} (hu:P.underlying t = some (.struct fs)) (hs:P.cellsOf t = d.sz) (h:OpensFs P fs.toList 0 d Q):Opens P t d Q:=by
 intro H enc W fuel cs x hx hw
 obtain ⟨xs,n,_,rfl,hl,hlen,hf⟩:=DataW.trod_struct hu hx
 exact h enc W n cs xs (fun i f hi => hf i f (by simpa using hi)) (by simpa using hlen) (by omega) (fun n hn => hw n (by simpa [DataW.weights,hu] using hn))
theorem opens_iso {α β:Type} {d:Kd α} {Q:α→Prop} (g:β→α) (inv:α→β) (hg:∀ a,g (inv a) = a) (h:Opens P t d Q):Opens P t (Kd.iso d g) (fun b => Q (g b)):=by
 intro H enc W fuel cs x hx hw
 obtain ⟨a,ha,hq⟩:=h enc W fuel cs x hx hw
 exact ⟨inv a,by show d.K W (g (inv a)) cs;rw [hg];exact ha,by show Q (g (inv a));rw [hg];exact hq⟩
theorem Opens.mono {α:Type} {d:Kd α} {Q Q':α→Prop} (h:Opens P t d Q) (hq:∀ a,Q a→Q' a):Opens P t d Q':=by
 intro H enc W fuel cs x hx hw
 obtain ⟨a,ha,h1⟩:=h enc W fuel cs x hx hw
 exact ⟨a,ha,hq a h1⟩
end
theorem agg_of {cs:Array Value} {l:List Value} (h:(Value.agg cs).cells.toList = l):cs = l.toArray:=by
 apply Array.toList_inj.1
 exact h
end Go.Proofs.YtlmicldpfnmeaaaGreatDoor.Args
