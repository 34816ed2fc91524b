/- Contracts of library functions. No conditions but those that each statement names. By this repo's programs; comments are taken out. -/
import Derived.Test.YtlmicldpfnmeaaaGreatDoorVFnComesBackH
import Derived.Test.YtlmicldpfnmeaaaGreatDoorVFnComesBackD
set_option linter.all false
namespace Go.Ev
open Go.RowKit Go.Proofs Go.Proofs.YtlmicldpfnmeaaaGreatDoorW.PrintWords Go.Proofs.YtlmicldpfnmeaaaGreatDoorW.PrintLast Go.Proofs.YtlmicldpfnmeaaaGreatDoorW.PrintMore
def encV {α:Type} (c:α→List CV) (x:α):List Value:=(c x).map valOf
theorem Z3k {α:Type} (c:α→List CV):∀ l:List α,Z31 (l.map c) = Go.Eb.flat (encV c) l
 | [] => rfl
 | x::l => by
  have:=Z3k c l
  simp only [Z31,List.map_cons,List.flatMap_cons,Go.Eb.flat] at this ⊢
  rw [this];rfl
theorem valOf_one {c:CV} (h:Z3T c = true):(valOf c).oneCell' = true:=by cases c <;> first | rfl | cases h
def kf {α:Type} (c:α→List CV) (n:Nat) (hn:∀ x,(c x).length = n) (hc:∀ x,(c x).all Z3T = true):Kd α where
 sz:=n
 E:=[]
 K:=fun _ x cs => cs = encV c x
 M:=fun _ _ _ x cs => cs = encV c x
 K_len:=fun h => by rw [h,encV,List.length_map,hn]
 K_one:=fun h u hu => by
  rw [h] at hu
  obtain ⟨v,hv,rfl⟩:=List.mem_map.1 hu
  exact valOf_one (List.all_eq_true.1 (hc _) v hv)
 K_below:=fun _ h => h
 K_of_M:=fun h => h
 M_mono:=fun _ h => h
 M_bound:=fun h => h
 M_move:=fun _ h => h
 M_lower:=fun _ h => h
theorem ZbC {α:Type} (c:α→List CV) (n:Nat) (hn:∀ x,(c x).length = n) (hc:∀ x,(c x).all Z3T = true) (h0:0 < n):Go.Eb.Flat (kf c n hn hc) (encV c) where
 len:=fun x => by rw [encV,List.length_map,hn];rfl
 pos:=h0
 one:=fun x u hu => by
  obtain ⟨v,hv,rfl⟩:=List.mem_map.1 hu
  exact valOf_one (List.all_eq_true.1 (hc _) v hv)
 op:=fun _ _ _ _ _ h => h
 mkk:=fun _ _ _ _ => rfl
theorem delO_iff {α:Type} {a1 a2:Int} {l r:List α} (h:delO a1 a2 l = some r):a2 = a1 + 1∧0≤a1∧a1 < l.length∧r = l.take a1.toNat++l.drop (a1.toNat + 1):=by
 unfold delO at h
 split at h
 ·rename_i h1;split at h
  ·rename_i h2;split at h
   ·rename_i h3;exact ⟨h1,h2,h3,(Option.some.inj h).symm⟩
   ·cases h
  ·cases h
 ·cases h
theorem insO_iff {α:Type} {b:Nat} {a1:Int} {l v r:List α} (h:insO b l a1 v = some r):∃ x,v = [x]∧0≤a1∧a1≤l.length∧(l.length + 1) * b≤140737488355328∧r = l.take a1.toNat++x::l.drop a1.toNat:=by
 unfold insO at h
 split at h
 ·rename_i x;split at h
  ·rename_i h1;split at h
   ·rename_i h2;split at h
    ·rename_i h3;exact ⟨x,rfl,h1,h2,h3,(Option.some.inj h).symm⟩
    ·cases h
   ·cases h
  ·cases h
 ·cases h
end Go.Ev
namespace Go.Ev
open Go.RowKit Go.Proofs Go.Proofs.YtlmicldpfnmeaaaGreatDoorW.PrintWords Go.Proofs.YtlmicldpfnmeaaaGreatDoorW.PrintLast Go.Proofs.YtlmicldpfnmeaaaGreatDoorW.PrintMore
set_option maxRecDepth 100000
theorem c145_n (x:S145):(c145 x).length = 4:=rfl
theorem c145_f (x:S145):(c145 x).all Z3T = true:=rfl
theorem m145_f (l:List S145):∀ r∈m145 l,r.all Z3T = true:=fun r hr => by obtain ⟨x,_,rfl⟩:=List.mem_map.1 hr;exact c145_f x
theorem m145_h (l:List S145):∀ r∈m145 l,r.map CV.sh = [.str,.int .i64,.int .i64,.int .i64]:=fun r hr => by obtain ⟨x,_,rfl⟩:=List.mem_map.1 hr;rfl
theorem Z0i.con (E:En) (hE:E = E0) {l0:List S145} {a1 a2:Int} {r:List S145} (H:Z0i.f l0 a1 a2 = some r) :
  Con Tryz.prog TBX 169 [.own 10000,.c (.int .i64 a1),.c (.int .i64 a2)] [.row false 145 [.str,.int .i64,.int .i64,.int .i64] (E.e145 l0)] (.own 0) [.row false 145 [.str,.int .i64,.int .i64,.int .i64] (E.e145 r)] [.gone]:=by
 subst hE
 obtain ⟨rfl,h2,h3,rfl⟩:=delO_iff H
 refine con_take ⟨_,Tryz.func169,by kernel_rfl,by kernel_rfl⟩ [.int .i64 a1,.int .i64 (a1 + 1)] rfl 145 _ (m145 l0) (m145 _) (m145_f _) (m145_f _) (m145_h _) (fun w v hv => ?_)
 rw [show Z31 (m145 l0) = Go.Eb.flat (encV c145) l0 from Z3k _ _,Z71] at hv
 have F:=ZbC c145 4 c145_n c145_f (by decide)
 have hR:=Go.Eb.R_close (d:=kf c145 4 c145_n c145_f) (ok:=fun _ => True) F (fun _ _ => trivial) hv
 obtain ⟨A,c,rfl⟩:=Kd.R_slice hR
 obtain ⟨i,rfl⟩:∃ i:Nat,a1 = i:=⟨a1.toNat,by omega⟩
 refine (Go.Eb.del_calls145 F rfl _ _ rfl rfl rfl rfl (by decide) w 0 (fun _ => True) _ A c l0 i rfl hR (by omega)).mono ?_
 rintro e' w' ⟨v',rfl,hR',hg,hb⟩
 refine ⟨v',rfl,?_,hg,.inl hb⟩
 rw [show Z31 (m145 _) = Go.Eb.flat (encV c145) _ from Z3k _ _,Z71]
 exact (Go.Eb.R_open F hR').2
theorem Z03.con (E:En) (hE:E = E0) {l0:List S145} {a1:Int} {l2 r1 r2:List S145} (H:Z03.f l0 a1 l2 = some (r1,r2)) :
  Con Tryz.prog TBX 170 [.own 10000,.c (.int .i64 a1),.own 10001] [.row false 145 [.str,.int .i64,.int .i64,.int .i64] (E.e145 l0),.row false 145 [.str,.int .i64,.int .i64,.int .i64] (E.e145 l2)] (.own 0) [.row false 145 [.str,.int .i64,.int .i64,.int .i64] (E.e145 r1)] [.gone,.row false 145 [.str,.int .i64,.int .i64,.int .i64] (E.e145 r2)]:=by
 subst hE
 obtain ⟨t,ht,H⟩:=Option.bind_eq_some_iff.1 H
 cases H
 obtain ⟨x,rfl,h2,h3,h4,rfl⟩:=insO_iff ht
 refine con_put ⟨_,Tryz.func170,by kernel_rfl,by kernel_rfl⟩ (.int .i64 a1) rfl 145 145 _ _ (m145 l0) (m145 _) (m145 [x]) (m145_f _) (m145_f _) (m145_f _) (m145_h _) (fun w v u hv hu hne => ?_)
 rw [show Z31 (m145 l0) = Go.Eb.flat (encV c145) l0 from Z3k _ _,Z71] at hv
 have F:=ZbC c145 4 c145_n c145_f (by decide)
 have hR:=Go.Eb.R_close (d:=kf c145 4 c145_n c145_f) (ok:=fun _ => True) F (fun _ _ => trivial) hv
 obtain ⟨i,rfl⟩:∃ i:Nat,a1 = i:=⟨a1.toNat,by omega⟩
 obtain ⟨vb,cap,cur,rfl,_,hh,hc1,_,hcs,htk⟩:=Go.Eb.own_blk hu (Nat.zero_lt_succ _)
 have hvt:∀ (j:Nat) (q:Value),(encV c145 x)[j]? = some q→cur[j]? = some q:=fun j q hj => by
  have hjl:=(List.getElem?_eq_some_iff.1 hj).1
  have hjl:j < 4:=hjl
  have e:encV c145 x = cur.toList.take 4:=htk.symm
  rw [e,List.getElem?_take_of_lt hjl] at hj
  simpa using hj
 have hvs:4≤cur.size:=by
  have:1≤cap:=hc1
  rw [hcs];show 4≤cap * 4;omega
 refine (Go.Eb.ins_calls145 F rfl _ _ rfl rfl rfl rfl rfl w 0 (fun _ => True) v l0 i x vb cap cur hR (by omega) hh hvt hvs (hne vb rfl) (Nat.zero_le _) (fun _ _ => trivial) h4).mono ?_
 rintro e' w' ⟨v',rfl,hR',hg,hb⟩
 refine ⟨v',rfl,?_,hg,hb⟩
 rw [show Z31 (m145 _) = Go.Eb.flat (encV c145) _ from Z3k _ _,Z71]
 exact (Go.Eb.R_open F hR').2
theorem c122_n (x:S122):(c122 x).length = 2:=rfl
theorem c122_f (x:S122):(c122 x).all Z3T = true:=rfl
theorem m122_f (l:List S122):∀ r∈m122 l,r.all Z3T = true:=fun r hr => by obtain ⟨x,_,rfl⟩:=List.mem_map.1 hr;exact c122_f x
theorem m122_h (l:List S122):∀ r∈m122 l,r.map CV.sh = [.str,.str]:=fun r hr => by obtain ⟨x,_,rfl⟩:=List.mem_map.1 hr;rfl
theorem Z0D.con (E:En) (hE:E = E0) {l0:List S122} {a1 a2:Int} {r:List S122} (H:Z0D.f l0 a1 a2 = some r) :
  Con Tryz.prog TBX 239 [.own 10000,.c (.int .i64 a1),.c (.int .i64 a2)] [.row false 122 [.str,.str] (E.e122 l0)] (.own 0) [.row false 122 [.str,.str] (E.e122 r)] [.gone]:=by
 subst hE
 obtain ⟨rfl,h2,h3,rfl⟩:=delO_iff H
 refine con_take ⟨_,Tryz.func239,by kernel_rfl,by kernel_rfl⟩ [.int .i64 a1,.int .i64 (a1 + 1)] rfl 122 _ (m122 l0) (m122 _) (m122_f _) (m122_f _) (m122_h _) (fun w v hv => ?_)
 rw [show Z31 (m122 l0) = Go.Eb.flat (encV c122) l0 from Z3k _ _,Z77] at hv
 have F:=ZbC c122 2 c122_n c122_f (by decide)
 have hR:=Go.Eb.R_close (d:=kf c122 2 c122_n c122_f) (ok:=fun _ => True) F (fun _ _ => trivial) hv
 obtain ⟨A,c,rfl⟩:=Kd.R_slice hR
 obtain ⟨i,rfl⟩:∃ i:Nat,a1 = i:=⟨a1.toNat,by omega⟩
 refine (Go.Eb.del_calls122 F rfl _ _ rfl rfl rfl rfl (by decide) w 0 (fun _ => True) _ A c l0 i rfl hR (by omega)).mono ?_
 rintro e' w' ⟨v',rfl,hR',hg,hb⟩
 refine ⟨v',rfl,?_,hg,.inl hb⟩
 rw [show Z31 (m122 _) = Go.Eb.flat (encV c122) _ from Z3k _ _,Z77]
 exact (Go.Eb.R_open F hR').2
theorem Z0F.con (E:En) (hE:E = E0) {l0:List S122} {a1:Int} {l2 r1 r2:List S122} (H:Z0F.f l0 a1 l2 = some (r1,r2)) :
  Con Tryz.prog TBX 238 [.own 10000,.c (.int .i64 a1),.own 10001] [.row false 122 [.str,.str] (E.e122 l0),.row false 122 [.str,.str] (E.e122 l2)] (.own 0) [.row false 122 [.str,.str] (E.e122 r1)] [.gone,.row false 122 [.str,.str] (E.e122 r2)]:=by
 subst hE
 obtain ⟨t,ht,H⟩:=Option.bind_eq_some_iff.1 H
 cases H
 obtain ⟨x,rfl,h2,h3,h4,rfl⟩:=insO_iff ht
 refine con_put ⟨_,Tryz.func238,by kernel_rfl,by kernel_rfl⟩ (.int .i64 a1) rfl 122 122 _ _ (m122 l0) (m122 _) (m122 [x]) (m122_f _) (m122_f _) (m122_f _) (m122_h _) (fun w v u hv hu hne => ?_)
 rw [show Z31 (m122 l0) = Go.Eb.flat (encV c122) l0 from Z3k _ _,Z77] at hv
 have F:=ZbC c122 2 c122_n c122_f (by decide)
 have hR:=Go.Eb.R_close (d:=kf c122 2 c122_n c122_f) (ok:=fun _ => True) F (fun _ _ => trivial) hv
 obtain ⟨i,rfl⟩:∃ i:Nat,a1 = i:=⟨a1.toNat,by omega⟩
 obtain ⟨vb,cap,cur,rfl,_,hh,hc1,_,hcs,htk⟩:=Go.Eb.own_blk hu (Nat.zero_lt_succ _)
 have hvt:∀ (j:Nat) (q:Value),(encV c122 x)[j]? = some q→cur[j]? = some q:=fun j q hj => by
  have hjl:=(List.getElem?_eq_some_iff.1 hj).1
  have hjl:j < 2:=hjl
  have e:encV c122 x = cur.toList.take 2:=htk.symm
  rw [e,List.getElem?_take_of_lt hjl] at hj
  simpa using hj
 have hvs:2≤cur.size:=by
  have:1≤cap:=hc1
  rw [hcs];show 2≤cap * 2;omega
 refine (Go.Eb.ins_calls122 F rfl _ _ rfl rfl rfl rfl rfl w 0 (fun _ => True) v l0 i x vb cap cur hR (by omega) hh hvt hvs (hne vb rfl) (Nat.zero_le _) (fun _ _ => trivial) h4).mono ?_
 rintro e' w' ⟨v',rfl,hR',hg,hb⟩
 refine ⟨v',rfl,?_,hg,hb⟩
 rw [show Z31 (m122 _) = Go.Eb.flat (encV c122) _ from Z3k _ _,Z77]
 exact (Go.Eb.R_open F hR').2
end Go.Ev
namespace Go.Ev
open Go.RowKit Go.Proofs Go.Proofs.YtlmicldpfnmeaaaGreatDoorW.PrintWords Go.Proofs.YtlmicldpfnmeaaaGreatDoorW.PrintLast Go.Proofs.YtlmicldpfnmeaaaGreatDoorW.PrintMore
set_option maxRecDepth 100000
theorem TBX_is {w:World} {G:Nat→Nat} (h:TBX.T w G):Go.Eb.TB w:=TabG.is h.1 (by decide)
theorem Z2W.con (E:En) (hE:E = E0) {a0 a1:ByteArray} {r:Int} (H:Z2W.f a0 a1 = some r):Con Tryz.prog TBX 168 [.c (.str a0),.c (.str a1)] [] (.c (.int .i64 r)) [] []:=by
 cases H
 exact Zdv ⟨_,Tryz.func168,by kernel_rfl,by kernel_rfl⟩ [.str a0,.str a1] rfl _ (fun w G _ => (Go.Eb.strcmp_calls a0 a1 w).mono (fun e w' h => ⟨_,h.1,fun _ _ => RepC.int _ _,by rw [←h.2];exact Below.refl _ _⟩))
theorem impl_Decimal.con (E:En) (hE:E = E0) {a0:Int} {r:ByteArray} (H:impl_Decimal.f a0 = some r):Con Tryz.prog TBX 145 [.c (.int .i64 a0)] [] (.c (.str r)) [] [] :=
 Zdv ⟨_,Tryz.func145,by kernel_rfl,by kernel_rfl⟩ [.int .i64 a0] rfl _ (fun w G hT => (Go.Eb.impl_Decimal.calls a0 r w H (TBX_is hT)).mono (fun e w' h => ⟨_,h.1,fun _ _ => RepC.str _,h.2⟩))
end Go.Ev
namespace Go.Ev
open Go.RowKit Go.Proofs
set_option maxRecDepth 100000
theorem strconv_Atoi.con (E:En) (hE:E = E0) {a0:ByteArray} {r1:Int} {r2:Bool} (H:strconv_Atoi.f a0 = some (r1,r2)):Con Tryz.prog TBX 227 [.c (.str a0)] [] (.tup [.c (.int .i64 r1),.ifc r2]) [] []:=by
 unfold strconv_Atoi.f atoiO at H
 split at H
 ·rename_i hl
  refine Zdv ⟨_,Tryz.func227,by kernel_rfl,by kernel_rfl⟩ [.str a0] rfl _ (fun w G hT => ?_)
  obtain ⟨_,ev,⟨g,hg,hc⟩,hev⟩:=hT
  have hg2 : g = Go.Eb.atoiRen.g 15 := Option.some.inj (hg.symm.trans (show Tryz.prog.globalNamed "strconv.ErrSyntax" = some (Go.Eb.atoiRen.g 15) by kernel_rfl))
  subst hg2
  refine (Go.Eb.atoi_calls a0 hl w ev (hc 0 (Nat.zero_le _)).2 hev).mono ?_
  rintro e w' ⟨h,hb⟩
  cases ha:Lib.atoi a0.data.toList with
  | some n =>
   rw [ha] at h H
   cases H
   refine ⟨_,h,fun g ob => ⟨_,rfl,rfl,fun k c hk => ?_⟩,hb⟩
   match k,hk with
   | 0,hk => cases hk;exact RepC.int _ _
   | 1,hk => cases hk;exact ⟨fun _ => rfl,fun h => (by cases h)⟩
  | none =>
   rw [ha] at h H
   cases H
   obtain ⟨t,p,h⟩:=h
   refine ⟨_,h,fun g ob => ⟨_,rfl,rfl,fun k c hk => ?_⟩,hb⟩
   match k,hk with
   | 0,hk => cases hk;exact RepC.int _ _
   | 1,hk => cases hk;exact ⟨fun h => (by cases h),fun _ => ⟨t,p,rfl⟩⟩
 ·cases H
end Go.Ev
namespace Go.Ev
open Go.RowKit Go.Proofs Go.Proofs.YtlmicldpfnmeaaaGreatDoorW.PrintWords Go.Proofs.YtlmicldpfnmeaaaGreatDoorW.PrintLast Go.Proofs.YtlmicldpfnmeaaaGreatDoorW.PrintMore
set_option maxRecDepth 100000
theorem intRow {w:World} {G:Nat→Nat} {v:Value} {xs:List Int} (h:RepC w G v (.sl [.int .i64] (nI .i64 xs))) (hl:xs.length≤9223372036854775807):∃ a c,v = .slice a xs.length c∧Kd.C (Kd.int .i64) w a xs.length xs:=by
 generalize hr:nI .i64 xs = rows at h
 cases h with
 | sl A c sh rows val b o hc hsh hA hr1 hv =>
  subst hr
  have hlen:(nI .i64 xs).length = xs.length:=nI_len _ _
  refine ⟨A,c,by rw [hlen],rfl,hl,fun hp => ?_⟩
  obtain rfl:=hA (fun e => by rw [e] at hlen;simp at hlen;omega)
  refine ⟨_,rfl,fun j p hj => ⟨[.int .i64 p],rfl,rfl,fun i u hu => ?_⟩⟩
  have hrow:(nI .i64 xs)[j]? = some [.int .i64 p]:=by unfold nI;rw [List.getElem?_map,hj];rfl
  cases i with
  | zero =>
   obtain rfl:=Option.some.inj hu
   have h1:=(hr1 j _ 0 _ hrow rfl).2
   have h2:=Z3o (hv j _ 0 _ hrow rfl)
   rw [Z4K]
   rw [h2] at h1
   exact h1
  | succ i => cases hu
theorem Z16.con (E:En) (hE:E = E0) {l0:List (List Int)} {r:List Int} (H:Z16.f l0 = some r):Con Tryz.prog TBX 223 [.c (.sl [.sl [.int .i64]] (E.eL l0))] [] (.own 0) [.row false 3 [.int .i64] (E.eI .i64 r)] []:=by
 subst hE
 unfold Z16.f at H
 split at H
 ·rename_i h1;split at H
  ·rename_i h2;split at H
   ·rename_i h3
    obtain rfl:=Option.some.inj H
    refine con_fresh ⟨_,Tryz.func223,by kernel_rfl,by kernel_rfl⟩ _ 3 [.int .i64] (nI .i64 l0.flatten) (fun r hr => by obtain ⟨x,_,rfl⟩:=List.mem_map.1 hr;rfl) (fun r hr => by obtain ⟨x,_,rfl⟩:=List.mem_map.1 hr;rfl) (fun w gp vs _ hl ha => ?_)
    obtain ⟨v,rfl⟩:∃ v,vs = [v]:=by
     match vs,hl with
     | [v],_ => exact ⟨v,rfl⟩
    have hv:=ha 0 _ rfl
    change RepC w gp.G v (.sl [.sl [.int .i64]] (nL l0)) at hv
    generalize hrr:nL l0 = rows at hv
    cases hv with
    | sl A c sh rows val b o hc hsh hA hr1 hv =>
     subst hrr
     have hlen:(nL l0).length = l0.length:=nL_len _
     obtain rfl:=hA (fun e => by rw [e] at hlen;simp at hlen;omega)
     have hc':l0.length≤c:=by rw [←hlen];exact hc
     rw [show [Value.slice (some ⟨b,o,none⟩) (nL l0).length c].toArray = #[.slice (some ⟨b,o,none⟩) l0.length c] by rw [hlen]]
     refine (Go.Ec.concat_calls w ⟨b,o,none⟩ c l0 (fun j xs hj => ?_) h3 h1 hc').mono ?_
     ·have hrow:(nL l0)[j]? = some [.sl [.int .i64] (nI .i64 xs)]:=by unfold nL;rw [List.getElem?_map,hj];rfl
      have k1:=(hr1 j _ 0 _ hrow rfl).2
      have hle:xs.length≤l0.flatten.length:=by
       have hm:=List.mem_of_getElem? hj
       obtain ⟨p,q,rfl⟩:=List.append_of_mem hm
       simp;omega
      obtain ⟨a,c2,k2,k3⟩:=intRow (hv j _ 0 _ hrow rfl) (by omega)
      refine ⟨a,c2,?_,k3⟩
      rw [Z4K,←k2]
      simpa using k1
     ·rintro e' w' ⟨v',rfl,hR,hb⟩
      refine ⟨v',rfl,?_,hb⟩
      have F:=ZbC (fun n:Int => [CV.int .i64 n]) 1 (fun _ => rfl) (fun _ => rfl) (by decide)
      have hO:w'.ownsRow w.heap.size 3 1 v' l0.flatten.length (Go.Eb.flat (encV fun n:Int => [CV.int .i64 n]) l0.flatten):=by
       obtain ⟨_,inner,k1,k2⟩:=hR
       rw [←Go.Eb.reps_flat (enc:=encV fun n:Int => [CV.int .i64 n]) (sz:=1) (R:=(Kd.int .i64).M w' w.heap.size fun k => (fun _ => True) k∧some k≠v'.ownBlock) (fun _ => rfl) (fun _ _ h => h) _ inner k2]
       exact k1
      rw [show Z31 (nI .i64 l0.flatten) = Go.Eb.flat (encV fun n:Int => [CV.int .i64 n]) l0.flatten from Z3k _ _,nI_len]
      exact hO
   ·cases H
  ·cases H
 ·cases H
end Go.Ev
