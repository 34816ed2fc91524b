/- The contracts of the Go functions that this law reaches: what each call returns, by a plain Lean function of its arguments. No conditions but those each contract names. By the kit's print.py, run by this session's wip/gen/pp.py with facts and hand proofs beside it: not to the letter what print.sh prints. -/
import Derived.Test.YtgpafelepkhdoaaPFnExactReadHintx0
import Derived.Test.YtgpafelepkhdoaaPFnExactReadHintx6
import Derived.Test.YtgpafelepkhdoaaPFnExactReadHintx8
import Derived.Test.YtgpafelepkhdoaaPFnExactReadHintx9
import Derived.Test.YtgpafelepkhdoaaPFnExactReadHintx10
namespace Go.Proofs.Ytgpafelepkhdoaa.PFnExactReadHint
open Go.RowKit Go.Proofs.YtgpafelepkhdoaaW.PrintWords Go.Proofs.YtgpafelepkhdoaaW.PrintLast Go.Proofs.YtgpafelepkhdoaaW.PrintMore
attribute [local go_sem] max2_int min2_int max_two min_two max_three min_three max_four min_four
set_option linter.unusedVariables false
set_option linter.unusedSimpArgs false
def Ag (W W1 : World) (g c : Nat) : Prop := W.heap.size ≤ W1.heap.size ∧ ∀ i, i < W.heap.size → i ≠ g → i ≠ c → W1.heap[i]? = W.heap[i]?
theorem Ag.refl (W : World) (g c : Nat) : Ag W W g c := ⟨Nat.le_refl _, fun _ _ _ _ => rfl⟩
theorem Ag.keep {W W1 W2 : World} {g c : Nat} (h : Ag W W1 g c) (k : KeepBut W1 W2 g none) : Ag W W2 g c := ⟨Nat.le_trans h.1 k.1, fun i hi hg hc => (k.2 i (Nat.lt_of_lt_of_le hi h.1) hg (by simp)).trans (h.2 i hi hg hc)⟩
theorem Ag.below {W W1 W2 : World} {g c : Nat} (h : Ag W W1 g c) (k : Below W1.heap.size W1 W2) : Ag W W2 g c := ⟨Nat.le_trans h.1 k.size, fun i hi hg hc => (k.block i (Nat.lt_of_lt_of_le hi h.1)).trans (h.2 i hi hg hc)⟩
theorem Ag.set {W W1 : World} {g c : Nat} (h : Ag W W1 g c) (j : Nat) (u : Value) : Ag W (W1.setCell ⟨c, j, none⟩ u) g c := ⟨by simpa [World.setCell] using h.1, fun i hi hg hc => (Below.heap_setCell W1 ⟨c, j, none⟩ u i hc).trans (h.2 i hi hg hc)⟩
structure Held2 {α : Type} (K : Kd α) (e T1 T2 : Nat) (w0 W : World) (g p o c : Nat) (v : Value) (out : List α) : Prop where
 P : W.heap[p]? = some (.cells #[.pointer (some ⟨g,0,none⟩)] T1 (0,0))
 O : W.heap[o]? = some (.cells #[v] T2 (0,0))
 R : Kd.R K e W w0.heap.size (fun k => k ≠ g ∧ k ≠ c ∧ k ≠ p ∧ k ≠ o) v out
 lp : w0.heap.size ≤ p
 lo : w0.heap.size ≤ o
 pg : p ≠ g
 og : o ≠ g
 op : o ≠ p
 pc : p ≠ c
 oc : o ≠ c
theorem Held2.move {α : Type} {K : Kd α} {e T1 T2 : Nat} {w0 W W1 : World} {g p o c : Nat} {v : Value} {out : List α} (h : Held2 K e T1 T2 w0 W g p o c v out) (k : Ag W W1 g c) : Held2 K e T1 T2 w0 W1 g p o c v out :=
 ⟨(k.2 p (kl_ h.P) h.pg h.pc).trans h.P,(k.2 o (kl_ h.O) h.og h.oc).trans h.O,Kd.R_step h.R (fun i hi hlt => k.2 i hlt hi.1 hi.2.1),h.lp,h.lo,h.pg,h.og,h.op,h.pc,h.oc⟩
theorem Held2.fresh {α : Type} {K : Kd α} {e T1 T2 : Nat} {w0 W : World} {g p o c c' : Nat} {v : Value} {out : List α} (h : Held2 K e T1 T2 w0 W g p o c v out) (hc : c' = W.heap.size) : Held2 K e T1 T2 w0 W g p o c' v out :=
 ⟨h.P,h.O,rm_ (Kd.R_bound h.R) (fun k hk => ⟨hk.1.1,by have:=hk.2.2.1;omega,hk.1.2.2.1,hk.1.2.2.2⟩),h.lp,h.lo,h.pg,h.og,h.op,by have:=kl_ h.P;omega,by have:=kl_ h.O;omega⟩
theorem Held2.at_p {α : Type} {K : Kd α} {e T1 T2 : Nat} {w0 W : World} {g p o c : Nat} {v : Value} {out : List α} (h : Held2 K e T1 T2 w0 W g p o c v out) : W.cell? ⟨p, 0, none⟩ = some (.pointer (some ⟨g, 0, none⟩)) := (blk_cell h.P 0).trans rfl
theorem Held2.at_o {α : Type} {K : Kd α} {e T1 T2 : Nat} {w0 W : World} {g p o c : Nat} {v : Value} {out : List α} (h : Held2 K e T1 T2 w0 W g p o c v out) : W.cell? ⟨o, 0, none⟩ = some v := (blk_cell h.O 0).trans rfl
def impl_ReadHint.one (k : Nat) (s : ByteArray) (a : Int) (b : Bool) (out : List S127) : Option (ByteArray × Int × Bool × List S127) :=
 (impl_reader_text.f k s a b).bind fun t => (impl_reader_num.f k t.2.1 t.2.2.1 t.2.2.2).bind fun x => (impl_reader_num.f k x.2.1 x.2.2.1 x.2.2.2).bind fun y => (impl_reader_num.f k y.2.1 y.2.2.1 y.2.2.2).bind fun z => if out.length < 3518437208883 then some (z.2.1,z.2.2.1,z.2.2.2,out ++ [(⟨t.1,x.1,y.1,z.1⟩ : S127)]) else none
set_option maxHeartbeats 4000000 in
set_option maxRecDepth 100000 in
theorem impl_ReadHint.one_calls (k g p o : Nat) (s : ByteArray) (a : Int) (b : Bool) (v : Value) (out : List S127) (s' : ByteArray) (a' : Int) (b' : Bool) (out' : List S127) (w0 w : World)
  (hI : IsS107 w0 w g s a b) (hB : Below w0.heap.size w0 w) (hV : Held2 k127 127 105 66 w0 w g p o g v out) (h : impl_ReadHint.one k s a b out = some (s',a',b',out')) :
  Calls Try.prog 111 #[.pointer (some ⟨p,0,none⟩),.pointer (some ⟨o,0,none⟩)] w fun e w' => e = .returned (.tuple #[]) ∧ ∃ v',IsS107 w0 w' g s' a' b' ∧ Below w0.heap.size w0 w' ∧ Held2 k127 127 105 66 w0 w' g p o g v' out':=by
 have hu127:=Try.underlying127;have hu107:=Try.underlying107
 unfold impl_ReadHint.one at h
 obtain ⟨⟨t,s1,a1,b1⟩,A1,h⟩:=ob_.mp h;dsimp only at h;obtain ⟨⟨x,s2,a2,b2⟩,A2,h⟩:=ob_.mp h;dsimp only at h;obtain ⟨⟨y,s3,a3,b3⟩,A3,h⟩:=ob_.mp h;dsimp only at h;obtain ⟨⟨z,s4,a4,b4⟩,A4,h⟩:=ob_.mp h;dsimp only at h
 by_cases hl : out.length < 3518437208883
 case neg => rw [if_neg hl] at h;cases h
 rw [if_pos hl] at h;simp only [Option.some.injEq,Prod.mk.injEq] at h;obtain ⟨rfl,rfl,rfl,rfl⟩:=h;have HL:=A_ hl;clear hl;have HI:=A_ hI;have HB:=A_ hB;have HV:=A_ hV;have HA1:=A_ A1;have HA2:=A_ A2;have HA3:=A_ A3;have HA4:=A_ A4;have hcp:=hV.at_p;clear A1 A2 A3 A4 hI hB hV;go_enter Try.func111,Try.ntmps111
 go_wp2_with (first|((with_reducible refine gate_callee (f:=89) rfl ?_);refine goesL_ (some 4) rfl rfl Try.func89 (by kernel_rfl) rfl #[.pointer (some ⟨g,0,none⟩)] rfl (by (try simp only [s4_,s5_,s6_]);first|done|rfl) ?_;(with_reducible refine (impl_reader_text.calls k g s a b t s1 a1 b1 w0 _ HI.out HB.out HA1.out).mono ?_);rintro e w4 ⟨rfl,hi,hb,hk⟩;refine ⟨_,rfl,?_⟩;replace HV:=A_ (HV.out.move ((Ag.refl _ _ _).keep hk));replace HI:=A_ hi;replace HB:=A_ hb;clear hi hb hk)|((with_reducible refine gate_dst (N:=2) rfl ?_);refine bE_ 2 #[.string (⟨#[]⟩ : ByteArray),.int .i64 0,.int .i64 0,.int .i64 0] 127 ?_;intro c hc w2 hbox hb;replace HV:=A_ ((HV.out.fresh hc).move ((Ag.refl _ _ _).below hb));have HGC:=A_ (show g ≠ c from by have:=IsS107.lt HI.out;omega);have HLC:=A_ (show w0.heap.size ≤ c from by have:=HB.out.size;omega);replace HI:=A_ (IsS107.below HI.out hb);replace HB:=A_ (bs_ HB.out hb);have HC:=A_ hbox;have hpc:=HV.out.pc;have hpc':=hpc.symm;have hoc:=HV.out.oc;have hoc':=hoc.symm;have hcp2:=HV.out.at_p;have hcz2_0:=(kc_ HC.out 0).trans rfl;have hcz2_1:=(kc_ HC.out 1).trans rfl;have hcz2_2:=(kc_ HC.out 2).trans rfl;have hcz2_3:=(kc_ HC.out 3).trans rfl;have hfz2_0:=kf_ HC.out 0;have hfz2_1:=kf_ HC.out 1;have hfz2_2:=kf_ HC.out 2;have hfz2_3:=kf_ HC.out 3;clear hb hbox hc)|((with_reducible refine gate_callee (f:=82) rfl ?_);refine goesL_ (some 7) rfl rfl Try.func82 (by kernel_rfl) rfl #[.pointer (some ⟨g,0,none⟩)] rfl (by (try simp only [s4_,s5_,s6_]);first|done|rfl) ?_;(with_reducible refine (impl_reader_num.calls k g s1 a1 b1 x s2 a2 b2 w0 _ (IsS107.far (IsS107.far (IsS107.far (IsS107.far HI.out HGC.out _) HGC.out _) HGC.out _) HGC.out _) (ps_ (ps_ (ps_ (ps_ HB.out HLC.out) HLC.out) HLC.out) HLC.out) HA2.out).mono ?_);rintro e w7 ⟨rfl,hi,hb,hk⟩;refine ⟨_,rfl,?_⟩;replace HC:=A_ (KeepBut.blk hk (ku_ (cs':=#[.string t,.int .i64 0,.int .i64 0,.int .i64 0]) (ku_ (cs':=#[.string t,.int .i64 0,.int .i64 0,.int .i64 0]) (ku_ (cs':=#[.string t,.int .i64 0,.int .i64 0,.int .i64 0]) (ku_ (cs':=#[.string t,.int .i64 0,.int .i64 0,.int .i64 0]) HC.out 0 _ rfl) 1 _ rfl) 2 _ rfl) 3 _ rfl) (fun e => HGC.out e.symm) (by simp));replace HV:=A_ (HV.out.move ((((((Ag.refl _ _ _).set 0 _).set 1 _).set 2 _).set 3 _).keep hk));replace HI:=A_ hi;replace HB:=A_ hb;clear hi hb hk;have hcp7:=HV.out.at_p;have hcz7_0:=(kc_ HC.out 0).trans rfl;have hcz7_1:=(kc_ HC.out 1).trans rfl;have hcz7_2:=(kc_ HC.out 2).trans rfl;have hcz7_3:=(kc_ HC.out 3).trans rfl;have hfz7_0:=kf_ HC.out 0;have hfz7_1:=kf_ HC.out 1;have hfz7_2:=kf_ HC.out 2;have hfz7_3:=kf_ HC.out 3)|((with_reducible refine gate_callee (f:=82) rfl ?_);refine goesL_ (some 10) rfl rfl Try.func82 (by kernel_rfl) rfl #[.pointer (some ⟨g,0,none⟩)] rfl (by (try simp only [s4_,s5_,s6_]);first|done|rfl) ?_;(with_reducible refine (impl_reader_num.calls k g s2 a2 b2 y s3 a3 b3 w0 _ (IsS107.far HI.out HGC.out _) (ps_ HB.out HLC.out) HA3.out).mono ?_);rintro e w10 ⟨rfl,hi,hb,hk⟩;refine ⟨_,rfl,?_⟩;replace HC:=A_ (KeepBut.blk hk (ku_ (cs':=#[.string t,.int .i64 x,.int .i64 0,.int .i64 0]) HC.out 1 _ rfl) (fun e => HGC.out e.symm) (by simp));replace HV:=A_ (HV.out.move (((Ag.refl _ _ _).set 1 _).keep hk));replace HI:=A_ hi;replace HB:=A_ hb;clear hi hb hk;have hcp10:=HV.out.at_p;have hcz10_0:=(kc_ HC.out 0).trans rfl;have hcz10_1:=(kc_ HC.out 1).trans rfl;have hcz10_2:=(kc_ HC.out 2).trans rfl;have hcz10_3:=(kc_ HC.out 3).trans rfl;have hfz10_0:=kf_ HC.out 0;have hfz10_1:=kf_ HC.out 1;have hfz10_2:=kf_ HC.out 2;have hfz10_3:=kf_ HC.out 3)|((with_reducible refine gate_callee (f:=82) rfl ?_);refine goesL_ (some 13) rfl rfl Try.func82 (by kernel_rfl) rfl #[.pointer (some ⟨g,0,none⟩)] rfl (by (try simp only [s4_,s5_,s6_]);first|done|rfl) ?_;(with_reducible refine (impl_reader_num.calls k g s3 a3 b3 z s4 a4 b4 w0 _ (IsS107.far HI.out HGC.out _) (ps_ HB.out HLC.out) HA4.out).mono ?_);rintro e w13 ⟨rfl,hi,hb,hk⟩;refine ⟨_,rfl,?_⟩;replace HC:=A_ (KeepBut.blk hk (ku_ (cs':=#[.string t,.int .i64 x,.int .i64 y,.int .i64 0]) HC.out 2 _ rfl) (fun e => HGC.out e.symm) (by simp));replace HV:=A_ (HV.out.move (((Ag.refl _ _ _).set 2 _).keep hk));replace HI:=A_ hi;replace HB:=A_ hb;clear hi hb hk;have hcp13:=HV.out.at_p;have hcz13_0:=(kc_ HC.out 0).trans rfl;have hcz13_1:=(kc_ HC.out 1).trans rfl;have hcz13_2:=(kc_ HC.out 2).trans rfl;have hcz13_3:=(kc_ HC.out 3).trans rfl;have hfz13_0:=kf_ HC.out 0;have hfz13_1:=kf_ HC.out 1;have hfz13_2:=kf_ HC.out 2;have hfz13_3:=kf_ HC.out 3;have hco:=HV.out.at_o;have hcf:=kf_ HV.out.O 0)|((with_reducible refine gate_builtin (b:=.append) (xs:=#[.tmp 15,.tmp 17]) rfl ?_);at_builtin;refine Kd.R_append k127 (w0:=w0) w0.heap.size rfl (.tmp 15) (.tmp 17) 66 127 (.agg #[(.string ⟨#[]⟩),(.int .i64 0),(.int .i64 0),(.int .i64 0)]) 40 rfl Try.underlying66 info127 rfl (by decide) (by omega) v out (⟨t,x,y,z⟩ : S127) [.string t,.int .i64 x,.int .i64 y,.int .i64 z] (fun k => k ≠ g ∧ k ≠ c ∧ k ≠ p ∧ k ≠ o) (fun _ => False) rfl (by first|(go_simp;done)|(go_simp;rfl)) ?aP (fun _ hk => hk.elim) ?aF ?aO ?aB ?aS ?aL ?_;(case aP => exact k127_mkM _ _ _ (⟨t,x,y,z⟩ : S127));(case aB => exact ps_ HB.out HLC.out);(case aF => exact (fun k_ hk => ⟨by have:=IsS107.lt (IsS107.far HI.out HGC.out (p:=⟨c,3,none⟩) (.int .i64 z));omega,by have:=kl_ (ku_ (cs':=#[.string t,.int .i64 x,.int .i64 y,.int .i64 z]) HC.out 3 (.int .i64 z) rfl);omega,by have:=kl_ (HV.out.move ((Ag.refl _ _ _).set 3 (.int .i64 z))).P;omega,by have:=kl_ (HV.out.move ((Ag.refl _ _ _).set 3 (.int .i64 z))).O;omega⟩));(case aO => exact (HV.out.move ((Ag.refl _ _ _).set 3 _)).R);(case aS => exact bz_ (ps_ HB.out HLC.out));(case aL => have:=HL.out;omega);intro v2 w18 ho hb hg hat;have HR2:=A_ ho;have hVq:=HV.out.move ((Ag.refl _ _ _).set 3 (.int .i64 z));have hIq:=IsS107.far HI.out HGC.out (p:=⟨c,3,none⟩) (.int .i64 z);have HP2:=A_ (kg_ hVq.P hg (re_ hVq.R hVq.P (by decide)));have HO2:=A_ (kg_ hVq.O hg (re_ hVq.R hVq.O (by decide)));replace HI:=A_ (IsS107.grown hIq hg (IsS107.own_ne hIq hVq.R (by decide)));replace HB:=A_ hb;have hco2:=(kc_ HO2.out 0).trans rfl;have hcf2:=kf_ HO2.out 0;clear ho hb hg hat hVq hIq;obtain ⟨Ao,co,eo⟩:=Kd.R_slice HR2.out;subst eo))
 have hV:=HV.out;have hr:=HR2.out;rw [show (out ++ [(⟨t,x,y,z⟩ : S127)]).length = out.length + 1 from by simp] at hr
 go_end0
 refine ⟨rfl,.slice Ao (out.length + 1) co,IsS107.far HI.out hV.og.symm _,ps_ HB.out hV.lo,kr_ HP2.out hV.op.symm _,ku_ HO2.out 0 _ rfl,?_,hV.lp,hV.lo,hV.pg,hV.og,hV.op,hV.pg,hV.og⟩;exact rm_ (rf_ (p:=⟨o,0,none⟩) hr (fun k hk => hk.2.2.2) _) (fun k hk => ⟨hk.1,hk.1,hk.2.2.1,hk.2.2.2⟩)
def impl_ReadHint.l0 : Nat → Int → Int → ByteArray → Int → Bool → List S127 → Option (ByteArray × Int × Bool × List S127)
 | 0,_,_,_,_,_,_ => none
 | k + 1,n,i,s,a,b,out => if i < n then (if b = true then some (s,a,b,out) else (impl_ReadHint.one k s a b out).bind fun r => impl_ReadHint.l0 k n (wrap64 (i + 1)) r.1 r.2.1 r.2.2.1 r.2.2.2) else some (s,a,b,out)
def impl_ReadHint.each (k : Nat) (s : ByteArray) (a : Int) (b : Bool) (out : List S127) : Option (ByteArray × Int × Bool × List S127) :=
 (impl_reader_num.f k s a b).bind fun n => impl_ReadHint.l0 k n.1 0 n.2.1 n.2.2.1 n.2.2.2 out
set_option maxHeartbeats 4000000 in
set_option maxRecDepth 100000 in
theorem impl_ReadHint.each_calls (k g p o : Nat) (s : ByteArray) (a : Int) (b : Bool) (v : Value) (out : List S127) (s' : ByteArray) (a' : Int) (b' : Bool) (out' : List S127) (w0 w : World)
  (hI : IsS107 w0 w g s a b) (hB : Below w0.heap.size w0 w) (hV : Held2 k127 127 105 66 w0 w g p o g v out) (h : impl_ReadHint.each k s a b out = some (s',a',b',out')) :
  Calls Try.prog 110 #[.pointer (some ⟨g,0,none⟩),.func (.func 111) #[] #[.pointer (some ⟨p,0,none⟩),.pointer (some ⟨o,0,none⟩)]] w fun e w' => e = .returned (.tuple #[]) ∧ ∃ v',IsS107 w0 w' g s' a' b' ∧ Below w0.heap.size w0 w' ∧ Held2 k127 127 105 66 w0 w' g p o g v' out':=by
 have hu107:=Try.underlying107
 unfold impl_ReadHint.each at h
 obtain ⟨⟨n,s1,a1,b1⟩,A1,h⟩:=ob_.mp h;dsimp only at h;have HI:=A_ hI;have HB:=A_ hB;have HV:=A_ hV;have HA1:=A_ A1;have H':=A_ h;clear A1 h hI hB hV;go_enter Try.func110,Try.ntmps110
 go_wp2_with (first|((with_reducible refine gate_callee (f:=82) rfl ?_);refine goesL_ (some 7) rfl rfl Try.func82 (by kernel_rfl) rfl #[.pointer (some ⟨g,0,none⟩)] rfl (by (try simp only [s4_,s5_,s6_]);first|done|rfl) ?_;(with_reducible refine (impl_reader_num.calls k g s a b n s1 a1 b1 w0 _ HI.out HB.out HA1.out).mono ?_);rintro e w1 ⟨rfl,hi,hb,hk⟩;refine ⟨_,rfl,?_⟩;replace HV:=A_ (HV.out.move ((Ag.refl _ _ _).keep hk));replace HI:=A_ hi;replace HB:=A_ hb;clear hi hb hk))
 clear HA1
 go_loopg [5] k (fun kq v5 w' => ∃ (i : Int) (s2 : ByteArray) (a2 : Int) (b2 : Bool) (v2 : Value) (out2 : List S127),v5 = .int .i64 i ∧ Aside0 (impl_ReadHint.l0 kq n i s2 a2 b2 out2 = some (s',a',b',out')) ∧ Aside0 (kq ≤ k) ∧ Aside0 (IsS107 w0 w' g s2 a2 b2) ∧ Aside0 (Below w0.heap.size w0 w') ∧ Aside0 (Held2 k127 127 105 66 w0 w' g p o g v2 out2))
 case atStart => exact ⟨0,s1,a1,b1,v,out,(by first|rfl|(simp;done)|(simp [*];done)),H',⟨Nat.le_refl _⟩,HI,HB,HV⟩
 case round =>
  clear H' HI HB HV;obtain ⟨i,s2,a2,b2,v2,out2,rfl,HA,HK1,HI,HB,HV⟩:=hrel
  cases gk with
  | zero => exact absurd HA.out (by simp [impl_ReadHint.l0])
  | succ k1 =>
   have H:=HA.out;clear HA;simp only [impl_ReadHint.l0] at H
   by_cases c1 : i < n
   ·rw [if_pos c1] at H;have c1b : decide (i < n) = true:=de_ c1;clear c1;have hcz:=(kc_ HI.out.1 2).trans rfl;have hfz:=kf_ HI.out.1 2
    by_cases c2 : b2 = true
    ·subst c2;rw [if_pos rfl] at H;simp only [Option.some.injEq,Prod.mk.injEq] at H;obtain ⟨rfl,rfl,rfl,rfl⟩:=H;go_wp2
     go_end0
     exact ⟨rfl,_,HI.out,HB.out,HV.out⟩
    ·rw [if_neg c2] at H
     obtain rfl : b2 = false:=by cases b2 <;> simp_all
     obtain ⟨⟨s3,a3,b3,out3⟩,A3,H⟩:=ob_.mp H;dsimp only at H;have HA3:=A_ A3;have H':=A_ H;clear A3 H c2
     go_wp2_with (first|(go_at_call 111;refine (impl_ReadHint.one_calls k1 g p o s2 a2 false v2 out2 s3 a3 b3 out3 w0 _ HI.out HB.out HV.out HA3.out).mono ?_;rintro e w3 ⟨rfl,v3,hi,hb,hv⟩;replace HV:=A_ hv;replace HI:=A_ hi;replace HB:=A_ hb;clear hi hb hv))
     go_roundg k1
     case measure => have:=HK1.out;omega
     case rel => exact ⟨wrap64 (i + 1),s3,a3,b3,v3,out3,(by first|rfl|(simp;done)|(simp [*];done)),H',⟨by have:=HK1.out;omega⟩,HI,HB,HV⟩
   ·rw [if_neg c1] at H;have c1b : decide (i < n) = false:=decide_eq_false c1;simp only [Option.some.injEq,Prod.mk.injEq] at H;obtain ⟨rfl,rfl,rfl,rfl⟩:=H;clear c1;go_wp2
    go_end0
    exact ⟨rfl,_,HI.out,HB.out,HV.out⟩
def impl_ReadHint.f (k : Nat) (a0 : ByteArray) : Option (List S127 × Bool) := (impl_Unsealed.f k a0).bind fun u => if u.2 = true then (impl_ReadHint.each k u.1 0 false []).bind fun r => (impl_reader_done.f r.1 r.2.1 r.2.2.1).bind fun d => if d.1 = true then (impl_DirOk.f k r.2.2.2).bind fun ok => if ok = true then some (r.2.2.2, true) else some ([], false) else some ([], false) else some ([], false)
theorem impl_ReadHint.mono_one (k : Nat) (s : ByteArray) (a : Int) (b : Bool) (out : List S127) : LeO (impl_ReadHint.one k s a b out) (impl_ReadHint.one (k + 1) s a b out) := by
 unfold impl_ReadHint.one
 exact LeO.bind (impl_reader_text.mono _ _ _ _) fun _ => LeO.bind (impl_reader_num.mono _ _ _ _) fun _ => LeO.bind (impl_reader_num.mono _ _ _ _) fun _ => LeO.bind (impl_reader_num.mono _ _ _ _) fun _ => LeO.refl _
theorem impl_ReadHint.mono_l : ∀ k n i s a b out, LeO (impl_ReadHint.l0 k n i s a b out) (impl_ReadHint.l0 (k + 1) n i s a b out)
 | 0 => fun _ _ _ _ _ _ r h => by simp [impl_ReadHint.l0] at h
 | k + 1 => fun n i s a b out => by
  have ih:=impl_ReadHint.mono_l k
  unfold impl_ReadHint.l0
  exact LeO.ite (LeO.ite (LeO.refl _) (LeO.bind (impl_ReadHint.mono_one _ _ _ _ _) fun _ => ih _ _ _ _ _ _)) (LeO.refl _)
theorem impl_ReadHint.mono : ∀ a0 k, LeO (impl_ReadHint.f k a0) (impl_ReadHint.f (k + 1) a0) := by
 intro a0 k
 unfold impl_ReadHint.f impl_ReadHint.each
 exact LeO.bind (impl_Unsealed.mono _ _) fun _ => LeO.ite (LeO.bind (LeO.bind (impl_reader_num.mono _ _ _ _) fun _ => impl_ReadHint.mono_l _ _ _ _ _ _ _) fun _ => LeO.bind (LeO.refl _) fun _ => LeO.ite (LeO.bind (impl_DirOk.mono _ _) fun _ => LeO.refl _) (LeO.refl _)) (LeO.refl _)
set_option maxHeartbeats 8000000 in
set_option maxRecDepth 100000 in
theorem impl_ReadHint.calls (k : Nat) (a0 : ByteArray) (r1 : List (S127)) (r2 : Bool) (w : World) (h : impl_ReadHint.f k a0 = some (r1, r2)) :
  Calls Try.prog 43 #[.string a0] w fun e w' => ∃ v0_ : Value,e = .returned (.tuple #[v0_,.bool r2]) ∧ Kd.R k127 127 w' w.heap.size (fun _ => True) v0_ r1 ∧ Below w.heap.size w w':=by
 have hu107:=Try.underlying107
 unfold impl_ReadHint.f at h
 obtain ⟨⟨u,ok⟩,A1,h⟩:=ob_.mp h;dsimp only at h;have HA1:=A_ A1;clear A1;have HB:=A_ (Below.refl w.heap.size w)
 by_cases c1 : ok = true
 ·subst c1;rw [if_pos rfl] at h;obtain ⟨⟨s1,a1,b1,out⟩,A2,h⟩:=ob_.mp h;dsimp only at h;obtain ⟨⟨d,s2,a2,b2⟩,A3,h⟩:=ob_.mp h;dsimp only at h;have HA2:=A_ A2;have HA3:=A_ A3;clear A2 A3
  cases d with
  | false =>
   rw [if_neg (by decide)] at h;simp only [Option.some.injEq,Prod.mk.injEq] at h;obtain ⟨rfl,rfl⟩:=h;go_enter Try.func43,Try.ntmps43
   go_wp2_with (first|((with_reducible refine gate_callee (f:=109) rfl ?_);refine goesL_ (some 10) rfl rfl Try.func109 (by kernel_rfl) rfl #[.string a0] rfl (by (try simp only [s4_,s5_,s6_]);first|done|rfl) ?_;(with_reducible refine (impl_Unsealed.calls k a0 u true _ HA1.out).mono ?_);rintro e w1 ⟨rfl,hb⟩;refine ⟨_,rfl,?_⟩;replace HB:=A_ (bs_ HB.out hb);clear hb)|((with_reducible refine gate_dst (N:=6) rfl ?_);refine bE_ 6 #[.slice none 0 0] 66 ?_;intro o ho w2 hbox hb;have HO:=A_ hbox;have HLO:=A_ (show w.heap.size ≤ o from by have:=HB.out.size;omega);replace HB:=A_ (bs_ HB.out hb);clear hb hbox ho)|((with_reducible refine gate_dst (N:=17) rfl ?_);refine bE_ 17 #[.string u,.int .i64 0,.bool false] 107 ?_;intro g hg w3 hbox hb;have HI:=A_ (show IsS107 w w3 g u 0 false from ⟨hbox,by have:=HB.out.size;omega⟩);have HOG:=A_ (show o ≠ g from by have:=kl_ HO.out;omega);replace HO:=A_ (kb_ HO.out hb);replace HB:=A_ (bs_ HB.out hb);clear hb hbox hg)|((with_reducible refine gate_dst (N:=7) rfl ?_);refine bE_ 7 #[.pointer none] 105 ?_;intro p hp w4 hbox hb;have HP:=A_ hbox;have HLP:=A_ (show w.heap.size ≤ p from by have:=HB.out.size;omega);have HPG:=A_ (show p ≠ g from by have:=IsS107.lt HI.out;omega);have HOP:=A_ (show o ≠ p from by have:=kl_ HO.out;omega);replace HO:=A_ (kb_ HO.out hb);replace HI:=A_ (IsS107.below HI.out hb);replace HB:=A_ (bs_ HB.out hb);have hcp:=(kc_ HP.out 0).trans rfl;have hfp:=kf_ HP.out 0;clear hb hbox hp)|((with_reducible refine gate_callee (f:=110) rfl ?_);refine goesL_ (some 20) rfl rfl Try.func110 (by kernel_rfl) rfl #[.pointer (some ⟨g,0,none⟩),.func (.func 111) #[] #[.pointer (some ⟨p,0,none⟩),.pointer (some ⟨o,0,none⟩)]] rfl (by (try simp only [s4_,s5_,s6_]);first|done|rfl) ?_;(with_reducible refine (impl_ReadHint.each_calls k g p o u 0 false (.slice none 0 0) [] s1 a1 b1 out w _ (IsS107.far HI.out HPG.out.symm _) (ps_ HB.out HLP.out) ⟨ku_ HP.out 0 _ rfl,kr_ HO.out HOP.out _,Kd.R_nil _ _ _ _ _,HLP.out,HLO.out,HPG.out,HOG.out,HOP.out,HPG.out,HOG.out⟩ HA2.out).mono ?_);rintro e w5 ⟨rfl,v,hi,hb,hv⟩;refine ⟨_,rfl,?_⟩;replace HI:=A_ hi;replace HB:=A_ hb;have HV:=A_ hv;have hcp5:=hv.at_p;obtain ⟨Ao,co,eo⟩:=Kd.R_slice hv.R;subst eo;have hco5:=hv.at_o;clear hi hb hv)|((with_reducible refine gate_callee (f:=83) rfl ?_);refine goesL_ (some 22) rfl rfl Try.func83 (by kernel_rfl) rfl #[.pointer (some ⟨g,0,none⟩)] rfl (by (try simp only [s4_,s5_,s6_]);first|done|rfl) ?_;(with_reducible refine (impl_reader_done.calls g s1 a1 b1 false s2 a2 b2 w _ HI.out HB.out HA3.out).mono ?_);rintro e w6 ⟨rfl,hi,hb,hk⟩;refine ⟨_,rfl,?_⟩;replace HV:=A_ (HV.out.move ((Ag.refl _ _ _).keep hk));replace HI:=A_ hi;replace HB:=A_ hb;have hco6:=HV.out.at_o;clear hi hb hk))
   go_ret2;exact ⟨_,rfl,Kd.R_nil _ _ _ _ _,HB.out⟩
  | true =>
   rw [if_pos rfl] at h;obtain ⟨ok,A4,h⟩:=ob_.mp h;have HA4:=A_ A4;clear A4
   cases ok with
   | false =>
    rw [if_neg (by decide)] at h;simp only [Option.some.injEq,Prod.mk.injEq] at h;obtain ⟨rfl,rfl⟩:=h;go_enter Try.func43,Try.ntmps43
    go_wp2_with (first|((with_reducible refine gate_callee (f:=109) rfl ?_);refine goesL_ (some 10) rfl rfl Try.func109 (by kernel_rfl) rfl #[.string a0] rfl (by (try simp only [s4_,s5_,s6_]);first|done|rfl) ?_;(with_reducible refine (impl_Unsealed.calls k a0 u true _ HA1.out).mono ?_);rintro e w1 ⟨rfl,hb⟩;refine ⟨_,rfl,?_⟩;replace HB:=A_ (bs_ HB.out hb);clear hb)|((with_reducible refine gate_dst (N:=6) rfl ?_);refine bE_ 6 #[.slice none 0 0] 66 ?_;intro o ho w2 hbox hb;have HO:=A_ hbox;have HLO:=A_ (show w.heap.size ≤ o from by have:=HB.out.size;omega);replace HB:=A_ (bs_ HB.out hb);clear hb hbox ho)|((with_reducible refine gate_dst (N:=17) rfl ?_);refine bE_ 17 #[.string u,.int .i64 0,.bool false] 107 ?_;intro g hg w3 hbox hb;have HI:=A_ (show IsS107 w w3 g u 0 false from ⟨hbox,by have:=HB.out.size;omega⟩);have HOG:=A_ (show o ≠ g from by have:=kl_ HO.out;omega);replace HO:=A_ (kb_ HO.out hb);replace HB:=A_ (bs_ HB.out hb);clear hb hbox hg)|((with_reducible refine gate_dst (N:=7) rfl ?_);refine bE_ 7 #[.pointer none] 105 ?_;intro p hp w4 hbox hb;have HP:=A_ hbox;have HLP:=A_ (show w.heap.size ≤ p from by have:=HB.out.size;omega);have HPG:=A_ (show p ≠ g from by have:=IsS107.lt HI.out;omega);have HOP:=A_ (show o ≠ p from by have:=kl_ HO.out;omega);replace HO:=A_ (kb_ HO.out hb);replace HI:=A_ (IsS107.below HI.out hb);replace HB:=A_ (bs_ HB.out hb);have hcp:=(kc_ HP.out 0).trans rfl;have hfp:=kf_ HP.out 0;clear hb hbox hp)|((with_reducible refine gate_callee (f:=110) rfl ?_);refine goesL_ (some 20) rfl rfl Try.func110 (by kernel_rfl) rfl #[.pointer (some ⟨g,0,none⟩),.func (.func 111) #[] #[.pointer (some ⟨p,0,none⟩),.pointer (some ⟨o,0,none⟩)]] rfl (by (try simp only [s4_,s5_,s6_]);first|done|rfl) ?_;(with_reducible refine (impl_ReadHint.each_calls k g p o u 0 false (.slice none 0 0) [] s1 a1 b1 out w _ (IsS107.far HI.out HPG.out.symm _) (ps_ HB.out HLP.out) ⟨ku_ HP.out 0 _ rfl,kr_ HO.out HOP.out _,Kd.R_nil _ _ _ _ _,HLP.out,HLO.out,HPG.out,HOG.out,HOP.out,HPG.out,HOG.out⟩ HA2.out).mono ?_);rintro e w5 ⟨rfl,v,hi,hb,hv⟩;refine ⟨_,rfl,?_⟩;replace HI:=A_ hi;replace HB:=A_ hb;have HV:=A_ hv;have hcp5:=hv.at_p;obtain ⟨Ao,co,eo⟩:=Kd.R_slice hv.R;subst eo;have hco5:=hv.at_o;clear hi hb hv)|((with_reducible refine gate_callee (f:=83) rfl ?_);refine goesL_ (some 22) rfl rfl Try.func83 (by kernel_rfl) rfl #[.pointer (some ⟨g,0,none⟩)] rfl (by (try simp only [s4_,s5_,s6_]);first|done|rfl) ?_;(with_reducible refine (impl_reader_done.calls g s1 a1 b1 true s2 a2 b2 w _ HI.out HB.out HA3.out).mono ?_);rintro e w6 ⟨rfl,hi,hb,hk⟩;refine ⟨_,rfl,?_⟩;replace HV:=A_ (HV.out.move ((Ag.refl _ _ _).keep hk));replace HI:=A_ hi;replace HB:=A_ hb;have hco6:=HV.out.at_o;clear hi hb hk)|(go_at_call 112;(with_reducible refine (impl_DirOk.calls k Ao co out false _ (Kd.R_reads' HV.out.R).2.2 (Kd.R_reads' HV.out.R).2.1 HA4.out).mono ?_);rintro e w7 ⟨rfl,hb⟩;replace HV:=A_ (HV.out.move ((Ag.refl _ _ _).below hb));replace HB:=A_ (bs_ HB.out hb);have hco7:=HV.out.at_o;clear hb))
    go_ret2;exact ⟨_,rfl,Kd.R_nil _ _ _ _ _,HB.out⟩
   | true =>
    rw [if_pos rfl] at h;simp only [Option.some.injEq,Prod.mk.injEq] at h;obtain ⟨rfl,rfl⟩:=h;go_enter Try.func43,Try.ntmps43
    go_wp2_with (first|((with_reducible refine gate_callee (f:=109) rfl ?_);refine goesL_ (some 10) rfl rfl Try.func109 (by kernel_rfl) rfl #[.string a0] rfl (by (try simp only [s4_,s5_,s6_]);first|done|rfl) ?_;(with_reducible refine (impl_Unsealed.calls k a0 u true _ HA1.out).mono ?_);rintro e w1 ⟨rfl,hb⟩;refine ⟨_,rfl,?_⟩;replace HB:=A_ (bs_ HB.out hb);clear hb)|((with_reducible refine gate_dst (N:=6) rfl ?_);refine bE_ 6 #[.slice none 0 0] 66 ?_;intro o ho w2 hbox hb;have HO:=A_ hbox;have HLO:=A_ (show w.heap.size ≤ o from by have:=HB.out.size;omega);replace HB:=A_ (bs_ HB.out hb);clear hb hbox ho)|((with_reducible refine gate_dst (N:=17) rfl ?_);refine bE_ 17 #[.string u,.int .i64 0,.bool false] 107 ?_;intro g hg w3 hbox hb;have HI:=A_ (show IsS107 w w3 g u 0 false from ⟨hbox,by have:=HB.out.size;omega⟩);have HOG:=A_ (show o ≠ g from by have:=kl_ HO.out;omega);replace HO:=A_ (kb_ HO.out hb);replace HB:=A_ (bs_ HB.out hb);clear hb hbox hg)|((with_reducible refine gate_dst (N:=7) rfl ?_);refine bE_ 7 #[.pointer none] 105 ?_;intro p hp w4 hbox hb;have HP:=A_ hbox;have HLP:=A_ (show w.heap.size ≤ p from by have:=HB.out.size;omega);have HPG:=A_ (show p ≠ g from by have:=IsS107.lt HI.out;omega);have HOP:=A_ (show o ≠ p from by have:=kl_ HO.out;omega);replace HO:=A_ (kb_ HO.out hb);replace HI:=A_ (IsS107.below HI.out hb);replace HB:=A_ (bs_ HB.out hb);have hcp:=(kc_ HP.out 0).trans rfl;have hfp:=kf_ HP.out 0;clear hb hbox hp)|((with_reducible refine gate_callee (f:=110) rfl ?_);refine goesL_ (some 20) rfl rfl Try.func110 (by kernel_rfl) rfl #[.pointer (some ⟨g,0,none⟩),.func (.func 111) #[] #[.pointer (some ⟨p,0,none⟩),.pointer (some ⟨o,0,none⟩)]] rfl (by (try simp only [s4_,s5_,s6_]);first|done|rfl) ?_;(with_reducible refine (impl_ReadHint.each_calls k g p o u 0 false (.slice none 0 0) [] s1 a1 b1 out w _ (IsS107.far HI.out HPG.out.symm _) (ps_ HB.out HLP.out) ⟨ku_ HP.out 0 _ rfl,kr_ HO.out HOP.out _,Kd.R_nil _ _ _ _ _,HLP.out,HLO.out,HPG.out,HOG.out,HOP.out,HPG.out,HOG.out⟩ HA2.out).mono ?_);rintro e w5 ⟨rfl,v,hi,hb,hv⟩;refine ⟨_,rfl,?_⟩;replace HI:=A_ hi;replace HB:=A_ hb;have HV:=A_ hv;have hcp5:=hv.at_p;obtain ⟨Ao,co,eo⟩:=Kd.R_slice hv.R;subst eo;have hco5:=hv.at_o;clear hi hb hv)|((with_reducible refine gate_callee (f:=83) rfl ?_);refine goesL_ (some 22) rfl rfl Try.func83 (by kernel_rfl) rfl #[.pointer (some ⟨g,0,none⟩)] rfl (by (try simp only [s4_,s5_,s6_]);first|done|rfl) ?_;(with_reducible refine (impl_reader_done.calls g s1 a1 b1 true s2 a2 b2 w _ HI.out HB.out HA3.out).mono ?_);rintro e w6 ⟨rfl,hi,hb,hk⟩;refine ⟨_,rfl,?_⟩;replace HV:=A_ (HV.out.move ((Ag.refl _ _ _).keep hk));replace HI:=A_ hi;replace HB:=A_ hb;have hco6:=HV.out.at_o;clear hi hb hk)|(go_at_call 112;(with_reducible refine (impl_DirOk.calls k Ao co out true _ (Kd.R_reads' HV.out.R).2.2 (Kd.R_reads' HV.out.R).2.1 HA4.out).mono ?_);rintro e w7 ⟨rfl,hb⟩;replace HV:=A_ (HV.out.move ((Ag.refl _ _ _).below hb));replace HB:=A_ (bs_ HB.out hb);have hco7:=HV.out.at_o;clear hb))
    go_ret2;exact ⟨_,rfl,rm_ HV.out.R (fun _ _ => trivial),HB.out⟩
 ·rw [if_neg c1] at h
  obtain rfl : ok = false:=by cases ok <;> simp_all
  simp only [Option.some.injEq,Prod.mk.injEq] at h;obtain ⟨rfl,rfl⟩:=h;go_enter Try.func43,Try.ntmps43
  go_wp2_with (first|((with_reducible refine gate_callee (f:=109) rfl ?_);refine goesL_ (some 10) rfl rfl Try.func109 (by kernel_rfl) rfl #[.string a0] rfl (by (try simp only [s4_,s5_,s6_]);first|done|rfl) ?_;(with_reducible refine (impl_Unsealed.calls k a0 u false _ HA1.out).mono ?_);rintro e w1 ⟨rfl,hb⟩;refine ⟨_,rfl,?_⟩;replace HB:=A_ (bs_ HB.out hb);clear hb))
  go_ret2;exact ⟨_,rfl,Kd.R_nil _ _ _ _ _,HB.out⟩
def laws_eqSpot.f (a0_0 : ByteArray) (a0_1 : Int) (a0_2 : Int) (a0_3 : Int) (a1_0 : ByteArray) (a1_1 : Int) (a1_2 : Int) (a1_3 : Int) : Option (Bool) := if a0_0.toList = a1_0.toList then (if a0_1 = a1_1 then (if a0_2 = a1_2 then (if a0_3 = a1_3 then (some true) else (some false)) else (some false)) else (some false)) else (some false)
set_option maxHeartbeats 8000000 in
set_option maxRecDepth 100000 in
theorem laws_eqSpot.calls (a0_0 : ByteArray) (a0_1 : Int) (a0_2 : Int) (a0_3 : Int) (a1_0 : ByteArray) (a1_1 : Int) (a1_2 : Int) (a1_3 : Int) (r : Bool) (w : World) (h : laws_eqSpot.f a0_0 a0_1 a0_2 a0_3 a1_0 a1_1 a1_2 a1_3 = some r) :
  Calls Try.prog 113 #[.agg #[.string a0_0,.int .i64 a0_1,.int .i64 a0_2,.int .i64 a0_3],.agg #[.string a1_0,.int .i64 a1_1,.int .i64 a1_2,.int .i64 a1_3]] w fun e w' => e = .returned (.bool r) ∧ Below w.heap.size w w':=by
 have hu127:=Try.underlying127;have HB:=A_ (Below.refl w.heap.size w);unfold laws_eqSpot.f at h;have H:=h;clear h
 by_cases c3 : a0_0.toList = a1_0.toList
 ·rw [if_pos c3] at H;have c3b0 : (a0_0.toList == a1_0.toList) = true:=beq_iff_eq.mpr c3;have c3b1 : (a0_0.toList != a1_0.toList) = false:=bne_eq_false_iff_eq.mpr c3;clear c3
  by_cases c4 : a0_1 = a1_1
  ·rw [if_pos c4] at H;have c4b0 : (a0_1 == a1_1) = true:=beq_iff_eq.mpr c4;have c4b1 : (a0_1 != a1_1) = false:=bne_eq_false_iff_eq.mpr c4;clear c4
   by_cases c5 : a0_2 = a1_2
   ·rw [if_pos c5] at H;have c5b0 : (a0_2 == a1_2) = true:=beq_iff_eq.mpr c5;have c5b1 : (a0_2 != a1_2) = false:=bne_eq_false_iff_eq.mpr c5;clear c5
    by_cases c6 : a0_3 = a1_3
    ·rw [if_pos c6] at H;have c6b0 : (a0_3 == a1_3) = true:=beq_iff_eq.mpr c6;have c6b1 : (a0_3 != a1_3) = false:=bne_eq_false_iff_eq.mpr c6;clear c6;obtain rfl:=Option.some.inj H;go_enter Try.func113,Try.ntmps113
     go_wp2_with (first|((with_reducible refine gate_dst (N:=2) rfl ?_);refine bE_ 2 #[.string a0_0,.int .i64 a0_1,.int .i64 a0_2,.int .i64 a0_3] 127 ?_;intro gb230 hg w7 hbox hb;have BK230:=A_ (hbox);have GW230:=gE_ hg HB;have GE230:=gE_ hg HB;replace HB:=bS_ HB hb;clear hb hbox hg)|((with_reducible refine gate_dst (N:=3) rfl ?_);refine bE_ 3 #[.string a1_0,.int .i64 a1_1,.int .i64 a1_2,.int .i64 a1_3] 127 ?_;intro gb231 hg w8 hbox hb;have BK231:=A_ (hbox);have GW231:=gE_ hg HB;have GE231:=gE_ hg HB;replace HB:=bS_ HB hb;have NB230_231:=nB_ hg BK230;have NB231_230:=nC_ hg BK230;replace BK230:=kB_ BK230 hb;clear hb hbox hg;have hnb9:=NB230_231.out;have hnc9:=NB231_230.out;obtain ⟨hcz10_0,hcz10_1,hcz10_2,hcz10_3,hfz10_0,hfz10_1,hfz10_2,hfz10_3⟩:=k4f_ BK230;obtain ⟨hcz11_0,hcz11_1,hcz11_2,hcz11_3,hfz11_0,hfz11_1,hfz11_2,hfz11_3⟩:=k4f_ BK231))
     go_ret;exact ⟨ex_,bq_ HB⟩
    ·rw [if_neg c6] at H;have c6b0 : (a0_3 == a1_3) = false:=beq_eq_false_iff_ne.mpr c6;have c6b1 : (a0_3 != a1_3) = true:=bne_iff_ne.mpr c6;obtain rfl:=Option.some.inj H;go_enter Try.func113,Try.ntmps113
     go_wp2_with (first|((with_reducible refine gate_dst (N:=2) rfl ?_);refine bE_ 2 #[.string a0_0,.int .i64 a0_1,.int .i64 a0_2,.int .i64 a0_3] 127 ?_;intro gb230 hg w12 hbox hb;have BK230:=A_ (hbox);have GW230:=gE_ hg HB;have GE230:=gE_ hg HB;replace HB:=bS_ HB hb;clear hb hbox hg)|((with_reducible refine gate_dst (N:=3) rfl ?_);refine bE_ 3 #[.string a1_0,.int .i64 a1_1,.int .i64 a1_2,.int .i64 a1_3] 127 ?_;intro gb231 hg w13 hbox hb;have BK231:=A_ (hbox);have GW231:=gE_ hg HB;have GE231:=gE_ hg HB;replace HB:=bS_ HB hb;have NB230_231:=nB_ hg BK230;have NB231_230:=nC_ hg BK230;replace BK230:=kB_ BK230 hb;clear hb hbox hg;have hnb14:=NB230_231.out;have hnc14:=NB231_230.out;obtain ⟨hcz15_0,hcz15_1,hcz15_2,hcz15_3,hfz15_0,hfz15_1,hfz15_2,hfz15_3⟩:=k4f_ BK230;obtain ⟨hcz16_0,hcz16_1,hcz16_2,hcz16_3,hfz16_0,hfz16_1,hfz16_2,hfz16_3⟩:=k4f_ BK231))
     go_ret;exact ⟨ex_,bq_ HB⟩
   ·rw [if_neg c5] at H;have c5b0 : (a0_2 == a1_2) = false:=beq_eq_false_iff_ne.mpr c5;have c5b1 : (a0_2 != a1_2) = true:=bne_iff_ne.mpr c5;obtain rfl:=Option.some.inj H;go_enter Try.func113,Try.ntmps113
    go_wp2_with (first|((with_reducible refine gate_dst (N:=2) rfl ?_);refine bE_ 2 #[.string a0_0,.int .i64 a0_1,.int .i64 a0_2,.int .i64 a0_3] 127 ?_;intro gb230 hg w17 hbox hb;have BK230:=A_ (hbox);have GW230:=gE_ hg HB;have GE230:=gE_ hg HB;replace HB:=bS_ HB hb;clear hb hbox hg)|((with_reducible refine gate_dst (N:=3) rfl ?_);refine bE_ 3 #[.string a1_0,.int .i64 a1_1,.int .i64 a1_2,.int .i64 a1_3] 127 ?_;intro gb231 hg w18 hbox hb;have BK231:=A_ (hbox);have GW231:=gE_ hg HB;have GE231:=gE_ hg HB;replace HB:=bS_ HB hb;have NB230_231:=nB_ hg BK230;have NB231_230:=nC_ hg BK230;replace BK230:=kB_ BK230 hb;clear hb hbox hg;have hnb19:=NB230_231.out;have hnc19:=NB231_230.out;obtain ⟨hcz20_0,hcz20_1,hcz20_2,hcz20_3,hfz20_0,hfz20_1,hfz20_2,hfz20_3⟩:=k4f_ BK230;obtain ⟨hcz21_0,hcz21_1,hcz21_2,hcz21_3,hfz21_0,hfz21_1,hfz21_2,hfz21_3⟩:=k4f_ BK231))
    go_ret;exact ⟨ex_,bq_ HB⟩
  ·rw [if_neg c4] at H;have c4b0 : (a0_1 == a1_1) = false:=beq_eq_false_iff_ne.mpr c4;have c4b1 : (a0_1 != a1_1) = true:=bne_iff_ne.mpr c4;obtain rfl:=Option.some.inj H;go_enter Try.func113,Try.ntmps113
   go_wp2_with (first|((with_reducible refine gate_dst (N:=2) rfl ?_);refine bE_ 2 #[.string a0_0,.int .i64 a0_1,.int .i64 a0_2,.int .i64 a0_3] 127 ?_;intro gb230 hg w22 hbox hb;have BK230:=A_ (hbox);have GW230:=gE_ hg HB;have GE230:=gE_ hg HB;replace HB:=bS_ HB hb;clear hb hbox hg)|((with_reducible refine gate_dst (N:=3) rfl ?_);refine bE_ 3 #[.string a1_0,.int .i64 a1_1,.int .i64 a1_2,.int .i64 a1_3] 127 ?_;intro gb231 hg w23 hbox hb;have BK231:=A_ (hbox);have GW231:=gE_ hg HB;have GE231:=gE_ hg HB;replace HB:=bS_ HB hb;have NB230_231:=nB_ hg BK230;have NB231_230:=nC_ hg BK230;replace BK230:=kB_ BK230 hb;clear hb hbox hg;have hnb24:=NB230_231.out;have hnc24:=NB231_230.out;obtain ⟨hcz25_0,hcz25_1,hcz25_2,hcz25_3,hfz25_0,hfz25_1,hfz25_2,hfz25_3⟩:=k4f_ BK230;obtain ⟨hcz26_0,hcz26_1,hcz26_2,hcz26_3,hfz26_0,hfz26_1,hfz26_2,hfz26_3⟩:=k4f_ BK231))
   go_ret;exact ⟨ex_,bq_ HB⟩
 ·rw [if_neg c3] at H;have c3b0 : (a0_0.toList == a1_0.toList) = false:=beq_eq_false_iff_ne.mpr c3;have c3b1 : (a0_0.toList != a1_0.toList) = true:=bne_iff_ne.mpr c3;obtain rfl:=Option.some.inj H;go_enter Try.func113,Try.ntmps113
  go_wp2_with (first|((with_reducible refine gate_dst (N:=2) rfl ?_);refine bE_ 2 #[.string a0_0,.int .i64 a0_1,.int .i64 a0_2,.int .i64 a0_3] 127 ?_;intro gb230 hg w27 hbox hb;have BK230:=A_ (hbox);have GW230:=gE_ hg HB;have GE230:=gE_ hg HB;replace HB:=bS_ HB hb;clear hb hbox hg)|((with_reducible refine gate_dst (N:=3) rfl ?_);refine bE_ 3 #[.string a1_0,.int .i64 a1_1,.int .i64 a1_2,.int .i64 a1_3] 127 ?_;intro gb231 hg w28 hbox hb;have BK231:=A_ (hbox);have GW231:=gE_ hg HB;have GE231:=gE_ hg HB;replace HB:=bS_ HB hb;have NB230_231:=nB_ hg BK230;have NB231_230:=nC_ hg BK230;replace BK230:=kB_ BK230 hb;clear hb hbox hg;have hnb29:=NB230_231.out;have hnc29:=NB231_230.out;obtain ⟨hcz30_0,hcz30_1,hcz30_2,hcz30_3,hfz30_0,hfz30_1,hfz30_2,hfz30_3⟩:=k4f_ BK230;obtain ⟨hcz31_0,hcz31_1,hcz31_2,hcz31_3,hfz31_0,hfz31_1,hfz31_2,hfz31_3⟩:=k4f_ BK231))
  go_ret;exact ⟨ex_,bq_ HB⟩
def laws_eqSpotS.l0 : Nat → List (S127) → List (S127) → Int → Option (Bool)
 | 0,_,_,_ => none
 | k + 1,x0,x1,x5 => if x5 < (x0.length : Int) then (if 0 ≤ x5 then (if x5 < (x1.length : Int) then ((laws_eqSpot.f ((rd_T127 x0 x5).f0) ((rd_T127 x0 x5).f1) ((rd_T127 x0 x5).f2) ((rd_T127 x0 x5).f3) ((rd_T127 x1 x5).f0) ((rd_T127 x1 x5).f1) ((rd_T127 x1 x5).f2) ((rd_T127 x1 x5).f3)).bind fun t234 => (if t234 = true then (laws_eqSpotS.l0 k x0 x1 (wrap64 (x5 + 1))) else (some false))) else (none)) else (none)) else (some true)
def laws_eqSpotS.f (k : Nat) (l0 : List (S127)) (l1 : List (S127)) : Option (Bool) := if (l0.length : Int) = (l1.length : Int) then (laws_eqSpotS.l0 k l0 l1 0) else (some false)
theorem laws_eqSpotS.mono_l : ∀ k, (∀ y0 y1 y2, LeO (laws_eqSpotS.l0 k y0 y1 y2) (laws_eqSpotS.l0 (k + 1) y0 y1 y2))
 | 0 => fun _ _ _ r h => by simp [laws_eqSpotS.l0] at h
 | k + 1 => by
  have ih0:=laws_eqSpotS.mono_l k
  ·intro y0 y1 y2
   unfold laws_eqSpotS.l0
   repeat' first
   | (with_reducible exact ih0 _ _ _)
   | (with_reducible exact LeO.refl _)
   | (with_reducible exact LeO.none _)
   | (with_reducible refine LeO.ite ?_ ?_)
   | (with_reducible refine LeO.bind ?_ (fun _ => ?_))
theorem laws_eqSpotS.mono : ∀ a0 a1 k, LeO (laws_eqSpotS.f k a0 a1) (laws_eqSpotS.f (k + 1) a0 a1) := by
 intro a0 a1 k;have ih0:=laws_eqSpotS.mono_l k
 unfold laws_eqSpotS.f
 repeat' first
   | (with_reducible exact ih0 _ _ _)
   | (with_reducible exact LeO.refl _)
   | (with_reducible exact LeO.none _)
   | (with_reducible refine LeO.ite ?_ ?_)
   | (with_reducible refine LeO.bind ?_ (fun _ => ?_))
def laws_eqSpotS.T6 : Bool × List (List Nat × List Nat) := (true, [([], []), ([], []), ([0, 1], [0, 1]), ([2], [2]), ([], []), ([], []), ([4, 5], [4, 5]), ([6], [6]), ([3, 7], [3, 7]), ([8], [8])])
def laws_eqSpotS.B6 : List Nat := [0, 0, 3, 7, 0, 0, 48, 112, 255, 511]
theorem laws_eqSpotS.tab6 : rtab .any (opsOf Try.f44 6) = laws_eqSpotS.T6 := by kernel_rfl
theorem laws_eqSpotS.bits6 : waitsOk laws_eqSpotS.T6.2 laws_eqSpotS.B6 = true := by kernel_rfl
set_option maxHeartbeats 8000000 in
set_option maxRecDepth 100000 in
theorem laws_eqSpotS.calls (k : Nat) (A0 : Option Addr) (c0 : Nat) (l0 : List (S127)) (A1 : Option Addr) (c1 : Nat) (l1 : List (S127)) (r : Bool) (w : World) (hr0 : Kd.C k127 w A0 l0.length l0) (hc0 : l0.length ≤ c0) (hr1 : Kd.C k127 w A1 l1.length l1) (hc1 : l1.length ≤ c1) (h : laws_eqSpotS.f k l0 l1 = some r) :
  Calls Try.prog 44 #[.slice A0 l0.length c0,.slice A1 l1.length c1] w fun e w' => e = .returned (.bool r) ∧ Below w.heap.size w w':=by
 have hu127:=Try.underlying127;have HR0:=A_ hr0;have HC0:=A_ hc0;clear hr0 hc0;have HR1:=A_ hr1;have HC1:=A_ hc1;clear hr1 hc1;have HB:=A_ (Below.refl w.heap.size w);unfold laws_eqSpotS.f at h;have H:=h;clear h
 by_cases c3 : (l0.length : Int) = (l1.length : Int)
 ·rw [if_pos c3] at H;have c3b0 : ((l0.length : Int) == (l1.length : Int)) = true:=beq_iff_eq.mpr c3;have c3b1 : ((l0.length : Int) != (l1.length : Int)) = false:=bne_eq_false_iff_eq.mpr c3
  have c3b2 : (l0.length == l1.length) = true:=by first|simpa using c3|(simp at c3 ⊢;omega)
  clear c3;have H':=A_ H;clear H;go_enter Try.func44,Try.ntmps44;go_wp2
  go_loopg [5] k (fun kq v5 w' => ∃ (x5_1 : Int),v5 = .int .i64 x5_1 ∧ Aside0 (laws_eqSpotS.l0 kq l0 l1 x5_1 = some r) ∧ Aside0 (kq ≤ k) ∧ Aside0 (Below w.heap.size w w'))
  case atStart => exact ⟨(0),(by first|rfl|(simp;done)|(simp [*];done)),H',⟨Nat.le_refl _⟩,⟨bq_ HB⟩⟩
  case round =>
   clear H'
   try clear c1
   try clear p2
   try clear c3
   try clear c3b0
   try clear c3b1
   try clear c3b2
   obtain ⟨x5_1,rfl,HA,HK1,HB⟩:=hrel
   cases gk with
   | zero => exact absurd HA.out (by simp [laws_eqSpotS.l0])
   | succ k1 =>
    have H:=HA.out;clear HA;simp only [laws_eqSpotS.l0] at H
    by_cases c4 : x5_1 < (l0.length : Int)
    ·rw [if_pos c4] at H;have c4b0 : decide (x5_1 < (l0.length : Int)) = true:=de_ c4;clear c4
     by_cases c5 : 0 ≤ x5_1
     ·rw [if_pos c5] at H;have c5b0 : decide (0 ≤ x5_1) = true:=de_ c5;clear c5
      by_cases c6 : x5_1 < (l1.length : Int)
      ·rw [if_pos c6] at H;have c6b0 : decide (x5_1 < (l1.length : Int)) = true:=de_ c6;clear c6;replace H:=ob_.mp H;obtain ⟨t234,A70,H⟩:=H;(try dsimp only at H);have A7:=A_ A70;clear A70
       by_cases c8 : t234 = true
       ·subst c8
        rw [if_pos rfl] at H;have H':=A_ H;clear H
        try go_wp2
        replace HB:=A_ (pd_ HB.out);have p232 : 0 ≤ (x5_1 : Int):=oda_;have q232 : x5_1 < (l0.length : Int):=oda_;obtain ⟨ad232,e232,hx232_0,hx232_1,hx232_2,hx232_3⟩:=at_T127 HR0.out x5_1 p232 q232;have hw232_3:=hx232_3;have hw232_2:=hx232_2;have hw232_1:=hx232_1;have hw232_0:=hx232_0
        cases e232
        replace hx232_0:=(HB.out.cell (wb_ w _ hx232_0)).trans hx232_0;replace hx232_1:=(HB.out.cell (wb_ w _ hx232_1)).trans hx232_1;replace hx232_2:=(HB.out.cell (wb_ w _ hx232_2)).trans hx232_2;replace hx232_3:=(HB.out.cell (wb_ w _ hx232_3)).trans hx232_3;replace p232:=eq_true p232;replace q232:=eq_true q232;have p233 : 0 ≤ (x5_1 : Int):=oda_;have q233 : x5_1 < (l1.length : Int):=oda_;obtain ⟨ad233,e233,hx233_0,hx233_1,hx233_2,hx233_3⟩:=at_T127 HR1.out x5_1 p233 q233;have hw233_3:=hx233_3;have hw233_2:=hx233_2;have hw233_1:=hx233_1;have hw233_0:=hx233_0
        cases e233
        replace hx233_0:=(HB.out.cell (wb_ w _ hx233_0)).trans hx233_0;replace hx233_1:=(HB.out.cell (wb_ w _ hx233_1)).trans hx233_1;replace hx233_2:=(HB.out.cell (wb_ w _ hx233_2)).trans hx233_2;replace hx233_3:=(HB.out.cell (wb_ w _ hx233_3)).trans hx233_3;replace p233:=eq_true p233;replace q233:=eq_true q233;refine start_ (n:=10) (S:=fun w' => w'.cell? (ad232.add ((x5_1).toNat * 4)) = some (.string ((rd_T127 l0 x5_1).f0)) ∧ w'.cell? ⟨(ad232.add ((x5_1).toNat * 4)).block,(ad232.add ((x5_1).toNat * 4)).off + 1,none⟩ = some (.int .i64 ((rd_T127 l0 x5_1).f1)) ∧ w'.cell? ⟨(ad232.add ((x5_1).toNat * 4)).block,(ad232.add ((x5_1).toNat * 4)).off + 2,none⟩ = some (.int .i64 ((rd_T127 l0 x5_1).f2)) ∧ w'.cell? ⟨(ad232.add ((x5_1).toNat * 4)).block,(ad232.add ((x5_1).toNat * 4)).off + 3,none⟩ = some (.int .i64 ((rd_T127 l0 x5_1).f3)) ∧ w'.cell? (ad233.add ((x5_1).toNat * 4)) = some (.string ((rd_T127 l1 x5_1).f0)) ∧ w'.cell? ⟨(ad233.add ((x5_1).toNat * 4)).block,(ad233.add ((x5_1).toNat * 4)).off + 1,none⟩ = some (.int .i64 ((rd_T127 l1 x5_1).f1)) ∧ w'.cell? ⟨(ad233.add ((x5_1).toNat * 4)).block,(ad233.add ((x5_1).toNat * 4)).off + 2,none⟩ = some (.int .i64 ((rd_T127 l1 x5_1).f2)) ∧ w'.cell? ⟨(ad233.add ((x5_1).toNat * 4)).block,(ad233.add ((x5_1).toNat * 4)).off + 3,none⟩ = some (.int .i64 ((rd_T127 l1 x5_1).f3))) (ds:=[]) #[false,false,false,false,false,false,false,false,false,false] (by kernel_rfl) rfl rfl ⟨((HB.out.cell (wb_ w _ hw232_0)).trans hw232_0),((HB.out.cell (wb_ w _ hw232_1)).trans hw232_1),((HB.out.cell (wb_ w _ hw232_2)).trans hw232_2),((HB.out.cell (wb_ w _ hw232_3)).trans hw232_3),((HB.out.cell (wb_ w _ hw233_0)).trans hw233_0),((HB.out.cell (wb_ w _ hw233_1)).trans hw233_1),((HB.out.cell (wb_ w _ hw233_2)).trans hw233_2),((HB.out.cell (wb_ w _ hw233_3)).trans hw233_3)⟩ (fun hHeld => ?_);refine with_tabW laws_eqSpotS.tab6 laws_eqSpotS.bits6 (fun HT_ HW_ => ?_);generalize wr.drew = w9 at HB hx232_0 hx232_1 hx232_2 hx232_3 hx233_0 hx233_1 hx233_2 hx233_3 hHeld ⊢;refine pU_ 0 (some 17) ?_
        refine pU_ 1 (some 18) ?_
        refine pU_ 2 (some 19) ?_
        refine pU_ 4 (some 21) ?_
        refine pU_ 5 (some 22) ?_
        refine pU_ 6 (some 23) ?_
        refine tK_ 3 (some 20) hHeld ?_
        refine tK_ 7 (some 24) hHeld ?_
        refine oN_ 8 (some 25) (fun K hK => ?_);refine gs_ Try.func113 #[.agg #[.string ((rd_T127 l0 x5_1).f0),.int .i64 ((rd_T127 l0 x5_1).f1),.int .i64 ((rd_T127 l0 x5_1).f2),.int .i64 ((rd_T127 l0 x5_1).f3)],.agg #[.string ((rd_T127 l1 x5_1).f0),.int .i64 ((rd_T127 l1 x5_1).f1),.int .i64 ((rd_T127 l1 x5_1).f2),.int .i64 ((rd_T127 l1 x5_1).f3)]] ?_;with_reducible refine (laws_eqSpot.calls ((rd_T127 l0 x5_1).f0) ((rd_T127 l0 x5_1).f1) ((rd_T127 l0 x5_1).f2) ((rd_T127 l0 x5_1).f3) ((rd_T127 l1 x5_1).f0) ((rd_T127 l1 x5_1).f1) ((rd_T127 l1 x5_1).f2) ((rd_T127 l1 x5_1).f3) true _ A7.out).mono ?_;rintro e w10 ⟨rfl,hb⟩;refine ⟨_,rfl,?_⟩;replace HB:=bS_ HB hb
        (try clear hb)
        refine hK.out _ _ ⟨((HB.out.cell (wb_ w _ hw232_0)).trans hw232_0),((HB.out.cell (wb_ w _ hw232_1)).trans hw232_1),((HB.out.cell (wb_ w _ hw232_2)).trans hw232_2),((HB.out.cell (wb_ w _ hw232_3)).trans hw232_3),((HB.out.cell (wb_ w _ hw233_0)).trans hw233_0),((HB.out.cell (wb_ w _ hw233_1)).trans hw233_1),((HB.out.cell (wb_ w _ hw233_2)).trans hw233_2),((HB.out.cell (wb_ w _ hw233_3)).trans hw233_3)⟩ (fun hHeld => ?_);clear hK K;refine nX_ (some 25) ?_
        refine pU_ 9 (some 26) ?_
        refine done_ (done_of HT_.out (by kernel_rfl)) ?_
        try go_wp2
        go_roundg k1
        case measure => have:=HK1.out;omega
        case rel => exact ⟨(wrap64 (x5_1 + 1)),(by first|rfl|(simp;done)|(simp [*];done)),H',⟨by have:=HK1.out;omega⟩,⟨bq_ HB⟩⟩
       ·replace c8:=Bool.eq_false_iff.mpr c8;subst c8
        have H1 : (some false) = some r:=by rw [if_neg (show ¬ (false = true) by decide)] at H;exact H
        clear H;have H:=H1;clear H1;obtain rfl:=Option.some.inj H
        try go_wp2
        replace HB:=A_ (pd_ HB.out);have p232 : 0 ≤ (x5_1 : Int):=oda_;have q232 : x5_1 < (l0.length : Int):=oda_;obtain ⟨ad232,e232,hx232_0,hx232_1,hx232_2,hx232_3⟩:=at_T127 HR0.out x5_1 p232 q232;have hw232_3:=hx232_3;have hw232_2:=hx232_2;have hw232_1:=hx232_1;have hw232_0:=hx232_0
        cases e232
        replace hx232_0:=(HB.out.cell (wb_ w _ hx232_0)).trans hx232_0;replace hx232_1:=(HB.out.cell (wb_ w _ hx232_1)).trans hx232_1;replace hx232_2:=(HB.out.cell (wb_ w _ hx232_2)).trans hx232_2;replace hx232_3:=(HB.out.cell (wb_ w _ hx232_3)).trans hx232_3;replace p232:=eq_true p232;replace q232:=eq_true q232;have p233 : 0 ≤ (x5_1 : Int):=oda_;have q233 : x5_1 < (l1.length : Int):=oda_;obtain ⟨ad233,e233,hx233_0,hx233_1,hx233_2,hx233_3⟩:=at_T127 HR1.out x5_1 p233 q233;have hw233_3:=hx233_3;have hw233_2:=hx233_2;have hw233_1:=hx233_1;have hw233_0:=hx233_0
        cases e233
        replace hx233_0:=(HB.out.cell (wb_ w _ hx233_0)).trans hx233_0;replace hx233_1:=(HB.out.cell (wb_ w _ hx233_1)).trans hx233_1;replace hx233_2:=(HB.out.cell (wb_ w _ hx233_2)).trans hx233_2;replace hx233_3:=(HB.out.cell (wb_ w _ hx233_3)).trans hx233_3;replace p233:=eq_true p233;replace q233:=eq_true q233;refine start_ (n:=10) (S:=fun w' => w'.cell? (ad232.add ((x5_1).toNat * 4)) = some (.string ((rd_T127 l0 x5_1).f0)) ∧ w'.cell? ⟨(ad232.add ((x5_1).toNat * 4)).block,(ad232.add ((x5_1).toNat * 4)).off + 1,none⟩ = some (.int .i64 ((rd_T127 l0 x5_1).f1)) ∧ w'.cell? ⟨(ad232.add ((x5_1).toNat * 4)).block,(ad232.add ((x5_1).toNat * 4)).off + 2,none⟩ = some (.int .i64 ((rd_T127 l0 x5_1).f2)) ∧ w'.cell? ⟨(ad232.add ((x5_1).toNat * 4)).block,(ad232.add ((x5_1).toNat * 4)).off + 3,none⟩ = some (.int .i64 ((rd_T127 l0 x5_1).f3)) ∧ w'.cell? (ad233.add ((x5_1).toNat * 4)) = some (.string ((rd_T127 l1 x5_1).f0)) ∧ w'.cell? ⟨(ad233.add ((x5_1).toNat * 4)).block,(ad233.add ((x5_1).toNat * 4)).off + 1,none⟩ = some (.int .i64 ((rd_T127 l1 x5_1).f1)) ∧ w'.cell? ⟨(ad233.add ((x5_1).toNat * 4)).block,(ad233.add ((x5_1).toNat * 4)).off + 2,none⟩ = some (.int .i64 ((rd_T127 l1 x5_1).f2)) ∧ w'.cell? ⟨(ad233.add ((x5_1).toNat * 4)).block,(ad233.add ((x5_1).toNat * 4)).off + 3,none⟩ = some (.int .i64 ((rd_T127 l1 x5_1).f3))) (ds:=[]) #[false,false,false,false,false,false,false,false,false,false] (by kernel_rfl) rfl rfl ⟨((HB.out.cell (wb_ w _ hw232_0)).trans hw232_0),((HB.out.cell (wb_ w _ hw232_1)).trans hw232_1),((HB.out.cell (wb_ w _ hw232_2)).trans hw232_2),((HB.out.cell (wb_ w _ hw232_3)).trans hw232_3),((HB.out.cell (wb_ w _ hw233_0)).trans hw233_0),((HB.out.cell (wb_ w _ hw233_1)).trans hw233_1),((HB.out.cell (wb_ w _ hw233_2)).trans hw233_2),((HB.out.cell (wb_ w _ hw233_3)).trans hw233_3)⟩ (fun hHeld => ?_);refine with_tabW laws_eqSpotS.tab6 laws_eqSpotS.bits6 (fun HT_ HW_ => ?_);generalize wr.drew = w11 at HB hx232_0 hx232_1 hx232_2 hx232_3 hx233_0 hx233_1 hx233_2 hx233_3 hHeld ⊢;refine pU_ 0 (some 17) ?_
        refine pU_ 1 (some 18) ?_
        refine pU_ 2 (some 19) ?_
        refine pU_ 4 (some 21) ?_
        refine pU_ 5 (some 22) ?_
        refine pU_ 6 (some 23) ?_
        refine tK_ 3 (some 20) hHeld ?_
        refine tK_ 7 (some 24) hHeld ?_
        refine oN_ 8 (some 25) (fun K hK => ?_);refine gs_ Try.func113 #[.agg #[.string ((rd_T127 l0 x5_1).f0),.int .i64 ((rd_T127 l0 x5_1).f1),.int .i64 ((rd_T127 l0 x5_1).f2),.int .i64 ((rd_T127 l0 x5_1).f3)],.agg #[.string ((rd_T127 l1 x5_1).f0),.int .i64 ((rd_T127 l1 x5_1).f1),.int .i64 ((rd_T127 l1 x5_1).f2),.int .i64 ((rd_T127 l1 x5_1).f3)]] ?_;with_reducible refine (laws_eqSpot.calls ((rd_T127 l0 x5_1).f0) ((rd_T127 l0 x5_1).f1) ((rd_T127 l0 x5_1).f2) ((rd_T127 l0 x5_1).f3) ((rd_T127 l1 x5_1).f0) ((rd_T127 l1 x5_1).f1) ((rd_T127 l1 x5_1).f2) ((rd_T127 l1 x5_1).f3) false _ A7.out).mono ?_;rintro e w12 ⟨rfl,hb⟩;refine ⟨_,rfl,?_⟩;replace HB:=bS_ HB hb
        (try clear hb)
        refine hK.out _ _ ⟨((HB.out.cell (wb_ w _ hw232_0)).trans hw232_0),((HB.out.cell (wb_ w _ hw232_1)).trans hw232_1),((HB.out.cell (wb_ w _ hw232_2)).trans hw232_2),((HB.out.cell (wb_ w _ hw232_3)).trans hw232_3),((HB.out.cell (wb_ w _ hw233_0)).trans hw233_0),((HB.out.cell (wb_ w _ hw233_1)).trans hw233_1),((HB.out.cell (wb_ w _ hw233_2)).trans hw233_2),((HB.out.cell (wb_ w _ hw233_3)).trans hw233_3)⟩ (fun hHeld => ?_);clear hK K;refine nX_ (some 25) ?_
        refine pU_ 9 (some 26) ?_
        refine done_ (done_of HT_.out (by kernel_rfl)) ?_
        try go_wp2
        go_ret;exact ⟨ex_,bq_ HB⟩
      ·rw [if_neg c6] at H;exact absurd H (by simp)
     ·rw [if_neg c5] at H;exact absurd H (by simp)
    ·rw [if_neg c4] at H;have c4b0 : decide (x5_1 < (l0.length : Int)) = false:=decide_eq_false c4;clear c4;obtain rfl:=Option.some.inj H;go_wp2;go_ret;exact ⟨ex_,bq_ HB⟩
 ·rw [if_neg c3] at H;have c3b0 : ((l0.length : Int) == (l1.length : Int)) = false:=beq_eq_false_iff_ne.mpr c3;have c3b1 : ((l0.length : Int) != (l1.length : Int)) = true:=bne_iff_ne.mpr c3
  have c3b2 : (l0.length == l1.length) = false:=by first|simpa using c3|(simp at c3 ⊢;omega)
  obtain rfl:=Option.some.inj H;go_enter Try.func44,Try.ntmps44;go_wp2;go_ret;exact ⟨ex_,bq_ HB⟩
def laws_markText.l0 : Nat → Int → ByteArray → Option (ByteArray)
 | 0,_,_ => none
 | k + 1,x0,x3 => if x0 > 0 then ((some (([(wrap64 (48 + (Int.tmod x0 10))) % 256] : List Int) : List Int)).bind fun y235 => (if (strOfNums y235).size + x3.size ≤ 9223372036854775807 then (laws_markText.l0 k (wrap64 (Int.tdiv x0 10)) ((strOfNums y235) ++ x3)) else (none))) else (if 1 + x3.size ≤ 9223372036854775807 then (some ((⟨#[109]⟩ : ByteArray) ++ x3)) else (none))
def laws_markText.f (k : Nat) (a0 : Int) : Option (ByteArray) := if a0 ≤ 0 then (some (⟨#[109, 48]⟩ : ByteArray)) else (laws_markText.l0 k a0 (⟨#[]⟩ : ByteArray))
theorem laws_markText.mono_l : ∀ k, (∀ y0 y1, LeO (laws_markText.l0 k y0 y1) (laws_markText.l0 (k + 1) y0 y1))
 | 0 => fun _ _ r h => by simp [laws_markText.l0] at h
 | k + 1 => by
  have ih0:=laws_markText.mono_l k
  ·intro y0 y1
   unfold laws_markText.l0
   repeat' first
   | (with_reducible exact ih0 _ _)
   | (with_reducible exact LeO.refl _)
   | (with_reducible exact LeO.none _)
   | (with_reducible refine LeO.ite ?_ ?_)
   | (with_reducible refine LeO.bind ?_ (fun _ => ?_))
theorem laws_markText.mono : ∀ a0 k, LeO (laws_markText.f k a0) (laws_markText.f (k + 1) a0) := by
 intro a0 k;have ih0:=laws_markText.mono_l k
 unfold laws_markText.f
 repeat' first
   | (with_reducible exact ih0 _ _)
   | (with_reducible exact LeO.refl _)
   | (with_reducible exact LeO.none _)
   | (with_reducible refine LeO.ite ?_ ?_)
   | (with_reducible refine LeO.bind ?_ (fun _ => ?_))
set_option maxHeartbeats 8000000 in
set_option maxRecDepth 100000 in
theorem laws_markText.calls (k : Nat) (a0 : Int) (r : ByteArray) (w : World) (h : laws_markText.f k a0 = some r) :
  Calls Try.prog 114 #[.int .i64 a0] w fun e w' => e = .returned (.string r) ∧ Below w.heap.size w w':=by
 have HB:=A_ (Below.refl w.heap.size w);unfold laws_markText.f at h;have H:=h;clear h
 by_cases c2 : a0 ≤ 0
 ·rw [if_pos c2] at H;have c2b0 : decide (a0 ≤ 0) = true:=de_ c2;clear c2;obtain rfl:=Option.some.inj H;go_enter Try.func114,Try.ntmps114;go_wp2;go_ret;exact ⟨ex_,bq_ HB⟩
 ·rw [if_neg c2] at H;have c2b0 : decide (a0 ≤ 0) = false:=decide_eq_false c2;clear c2;have H':=A_ H;clear H;go_enter Try.func114,Try.ntmps114;go_wp2
  go_loopg [0,3] k (fun kq v0 v3 w' => ∃ (x0_1 : Int) (x3_1 : ByteArray),v0 = .int .i64 x0_1 ∧ v3 = .string x3_1 ∧ Aside0 (laws_markText.l0 kq x0_1 x3_1 = some r) ∧ Aside0 (kq ≤ k) ∧ Aside0 (Below w.heap.size w w'))
  case atStart => exact ⟨(a0),((⟨#[]⟩ : ByteArray)),(by first|rfl|(simp;done)|(simp [*];done)),(by first|rfl|(simp;done)|(simp [*];done)),H',⟨Nat.le_refl _⟩,⟨bq_ HB⟩⟩
  case round =>
   clear H'
   try clear c1
   try clear c2
   try clear c2b0
   try clear p2
   obtain ⟨x0_1,x3_1,rfl,rfl,HA,HK1,HB⟩:=hrel
   cases gk with
   | zero => exact absurd HA.out (by simp [laws_markText.l0])
   | succ k1 =>
    have H:=HA.out;clear HA;simp only [laws_markText.l0] at H
    by_cases c3 : x0_1 > 0
    ·rw [if_pos c3] at H;have c3b0 : decide (0 < x0_1) = true:=de_ c3;clear c3;obtain ⟨y235,hy235⟩ : ∃ y_ : List Int,y_ = (([(wrap64 (48 + (Int.tmod x0_1 10))) % 256] : List Int)):=⟨_,rfl⟩
     replace H : (if (strOfNums y235).size + x3_1.size ≤ 9223372036854775807 then (laws_markText.l0 k1 (wrap64 (Int.tdiv x0_1 10)) ((strOfNums y235) ++ x3_1)) else (none)) = some r:=by first|(rw [hy235];with_reducible exact H)|(have H2_:=(Option.bind_some _ _).symm.trans H;rw [hy235];with_reducible exact H2_)|(have H2_:=(Option.bind_some _ _).symm.trans H;with_reducible exact H2_)|with_reducible exact H|(rw [hy235];exact H)|exact H
     have Ny235:=A_ hy235;clear hy235
     by_cases c4 : (strOfNums y235).size + x3_1.size ≤ 9223372036854775807
     ·rw [if_pos c4] at H;have c4b0:=eq_true c4;have c4b1 : decide ((strOfNums y235).size + x3_1.size ≤ 9223372036854775807) = true:=de_ c4
      try have c4b2 : (9223372036854775807 < (strOfNums y235).size + x3_1.size) = False:=eq_false (Nat.not_lt.2 c4)
      have H':=A_ H;clear H
      go_wp2_with (first|((with_reducible refine gate_dst (N:=12) rfl ?_);refine rX_ (d:=(Kd.int .u8)) (e:=5) (xs:=([(wrap64 (48 + (Int.tmod x0_1 10))) % 256] : List Int)) (inner:=[.int .u8 ((wrap64 (48 + (Int.tmod x0_1 10))) % 256)]) (ok:=fun _ => True) (okp:=fun _ => True) 12 (Reps.one (show Kd.M (Kd.int .u8) _ _ _ ((wrap64 (48 + (Int.tmod x0_1 10))) % 256) [.int .u8 ((wrap64 (48 + (Int.tmod x0_1 10))) % 256)] from rfl) (Reps.none _ _)) ?_;intro v236 w5 ho6 hb hg_ hnew_;clear hg_ hnew_;(first|rw [← Ny235.out] at ho6|(simp only [Int.reduceToNat] at ho6;rw [← Ny235.out] at ho6));have HO237:=A_ (rw_ ho6 (bz_ (bq_ HB)));replace HB:=bS_ HB hb;clear hb ho6;have hcv7:=own_string (P:=Try.prog) Try.underlying22 Try.underlying5 Try.underlying9 (Kd.own_of_R HO237.out)))
      go_roundg k1
      case measure => have:=HK1.out;omega
      case rel => exact ⟨(wrap64 (Int.tdiv x0_1 10)),((strOfNums y235) ++ x3_1),(by first|rfl|(simp;done)|(simp [*];done)),(by first|rfl|(simp;done)|(simp [*];done)),H',⟨by have:=HK1.out;omega⟩,⟨bq_ HB⟩⟩
     ·rw [if_neg c4] at H;exact absurd H (by simp)
    ·rw [if_neg c3] at H;have c3b0 : decide (0 < x0_1) = false:=decide_eq_false c3;clear c3
     by_cases c8 : 1 + x3_1.size ≤ 9223372036854775807
     ·rw [if_pos c8] at H;have c8b0:=eq_true c8;have c8b1 : decide (1 + x3_1.size ≤ 9223372036854775807) = true:=de_ c8
      try have c8b2 : (9223372036854775807 < 1 + x3_1.size) = False:=eq_false (Nat.not_lt.2 c8)
      obtain rfl:=Option.some.inj H;go_wp2;go_ret;exact ⟨ex_,bq_ HB⟩
     ·rw [if_neg c8] at H;exact absurd H (by simp)
def laws_markSpotS.l0 : Nat → List (S127) → Int → Int → Option (Int × (List (S127)))
 | 0,_,_,_ => none
 | k + 1,x0,x1,x5 => if x5 < (x0.length : Int) then ((laws_markText.f k x1).bind fun t238 => (if 0 ≤ x5 then ((some (x0.set (x5 : Int).toNat (⟨t238,(rd_T127 x0 x5).f1,(rd_T127 x0 x5).f2,(rd_T127 x0 x5).f3⟩ : S127) : List (S127))).bind fun y239 => ((some (y239.set (x5 : Int).toNat (⟨(rd_T127 y239 x5).f0,wrap64 (x1 + 1),(rd_T127 y239 x5).f2,(rd_T127 y239 x5).f3⟩ : S127) : List (S127))).bind fun y240 => ((some (y240.set (x5 : Int).toNat (⟨(rd_T127 y240 x5).f0,(rd_T127 y240 x5).f1,wrap64 ((wrap64 (x1 + 1)) + 1),(rd_T127 y240 x5).f3⟩ : S127) : List (S127))).bind fun y241 => (laws_markSpotS.l0 k (y241.set (x5 : Int).toNat (⟨(rd_T127 y241 x5).f0,(rd_T127 y241 x5).f1,(rd_T127 y241 x5).f2,wrap64 ((wrap64 ((wrap64 (x1 + 1)) + 1)) + 1)⟩ : S127)) (wrap64 ((wrap64 ((wrap64 ((wrap64 (x1 + 1)) + 1)) + 1)) + 1)) (wrap64 (x5 + 1)))))) else (none))) else (some (x1,x0))
def laws_markSpotS.f (k : Nat) (l0 : List (S127)) (a1 : Int) : Option (Int × (List (S127))) := laws_markSpotS.l0 k l0 a1 0
theorem laws_markSpotS.mono_l : ∀ k, (∀ y0 y1 y2, LeO (laws_markSpotS.l0 k y0 y1 y2) (laws_markSpotS.l0 (k + 1) y0 y1 y2))
 | 0 => fun _ _ _ r h => by simp [laws_markSpotS.l0] at h
 | k + 1 => by
  have ih0:=laws_markSpotS.mono_l k
  ·intro y0 y1 y2
   unfold laws_markSpotS.l0
   repeat' first
   | (with_reducible exact ih0 _ _ _)
   | (with_reducible exact laws_markText.mono _ _)
   | (with_reducible exact LeO.refl _)
   | (with_reducible exact LeO.none _)
   | (with_reducible refine LeO.ite ?_ ?_)
   | (with_reducible refine LeO.bind ?_ (fun _ => ?_))
theorem laws_markSpotS.mono : ∀ a0 a1 k, LeO (laws_markSpotS.f k a0 a1) (laws_markSpotS.f (k + 1) a0 a1) := by
 intro a0 a1 k;have ih0:=laws_markSpotS.mono_l k
 unfold laws_markSpotS.f
 repeat' first
   | (with_reducible exact ih0 _ _ _)
   | (with_reducible exact laws_markText.mono _ _)
   | (with_reducible exact LeO.refl _)
   | (with_reducible exact LeO.none _)
   | (with_reducible refine LeO.ite ?_ ?_)
   | (with_reducible refine LeO.bind ?_ (fun _ => ?_))
set_option maxHeartbeats 8000000 in
set_option maxRecDepth 100000 in
theorem laws_markSpotS.calls (k : Nat) (P0_ : Nat → Prop) (u9000_ : Value) (l0 : List (S127)) (a1 : Int) (r1 : Int) (r2 : List (S127)) (w0 w : World) (hB : Below w0.heap.size w0 w) (ho0 : Kd.R k127 127 w w0.heap.size P0_ u9000_ l0) (h : laws_markSpotS.f k l0 a1 = some (r1, r2)) :
  Calls Try.prog 45 #[u9000_,.int .i64 a1] w fun e w' => e = .returned (.int .i64 r1) ∧ Kd.R k127 127 w' w0.heap.size (fun k_ => (P0_ k_ ∨ w.heap.size ≤ k_)) u9000_ r2 ∧ Below w0.heap.size w0 w' ∧ Kept w w' (fun k_ => P0_ k_):=by
 have HO0:=A_ (show Kd.R k127 127 w w0.heap.size (fun k_ => (P0_ k_ ∨ w.heap.size ≤ k_)) u9000_ l0 from rm_ ho0 (fun k_ hk => (.inl hk)));have HK:=A_ (Kept.refl w (fun k_ => P0_ k_));have HW0:=A_ hB.size;have HB:=A_ hB;clear hB;unfold laws_markSpotS.f at h;have H:=h;clear h;have H':=A_ H;clear H;go_enter Try.func45,Try.ntmps45;go_wp2
 go_loopg [1,5] k (fun kq v1 v5 w' => ∃ (x0_1 : List (S127)) (x1_1 : Int) (x5_1 : Int),v1 = .int .i64 x1_1 ∧ v5 = .int .i64 x5_1 ∧ Aside0 (laws_markSpotS.l0 kq x0_1 x1_1 x5_1 = some (r1,r2)) ∧ Aside0 (kq ≤ k) ∧ Aside0 (Kd.R k127 127 w' w0.heap.size (fun k_ => (P0_ k_ ∨ w.heap.size ≤ k_)) u9000_ x0_1) ∧ Aside0 (Kept w w' (fun k_ => P0_ k_)) ∧ Aside0 (Below w0.heap.size w0 w'))
 case atStart => exact ⟨(l0),(a1),(0),(by first|rfl|(simp;done)|(simp [*];done)),(by first|rfl|(simp;done)|(simp [*];done)),H',⟨Nat.le_refl _⟩,⟨by (with_reducible repeat (first|apply ra_|apply rn_|apply Rd_));exact HO0.out⟩,⟨by repeat (first|(with_reducible first|exact HK.out|apply Kept.alloc|apply Kept.drewN|apply Kept.drew)|exact HK.out)⟩,⟨bq_ HB⟩⟩
 case round =>
  clear H'
  try clear p2
  obtain ⟨x0_1,x1_1,x5_1,rfl,rfl,HA,HK1,HO_0,HK,HB⟩:=hrel
  cases gk with
  | zero => exact absurd HA.out (by simp [laws_markSpotS.l0])
  | succ k1 =>
   have H:=HA.out;clear HA;simp only [laws_markSpotS.l0] at H
   by_cases c3 : x5_1 < (x0_1.length : Int)
   ·rw [if_pos c3] at H;have c3b0 : decide (x5_1 < (x0_1.length : Int)) = true:=de_ c3;clear c3;replace H:=ob_.mp H;obtain ⟨t238,A40,H⟩:=H;(try dsimp only at H);have A4:=A_ A40;clear A40
    by_cases c5 : 0 ≤ x5_1
    ·rw [if_pos c5] at H;have c5b0 : decide (0 ≤ x5_1) = true:=de_ c5;clear c5;obtain ⟨y239,hy239⟩ : ∃ y_ : List (S127),y_ = (x0_1.set (x5_1 : Int).toNat (⟨t238,(rd_T127 x0_1 x5_1).f1,(rd_T127 x0_1 x5_1).f2,(rd_T127 x0_1 x5_1).f3⟩ : S127)):=⟨_,rfl⟩
     replace H : ((some (y239.set (x5_1 : Int).toNat (⟨(rd_T127 y239 x5_1).f0,wrap64 (x1_1 + 1),(rd_T127 y239 x5_1).f2,(rd_T127 y239 x5_1).f3⟩ : S127) : List (S127))).bind fun y240 => ((some (y240.set (x5_1 : Int).toNat (⟨(rd_T127 y240 x5_1).f0,(rd_T127 y240 x5_1).f1,wrap64 ((wrap64 (x1_1 + 1)) + 1),(rd_T127 y240 x5_1).f3⟩ : S127) : List (S127))).bind fun y241 => (laws_markSpotS.l0 k1 (y241.set (x5_1 : Int).toNat (⟨(rd_T127 y241 x5_1).f0,(rd_T127 y241 x5_1).f1,(rd_T127 y241 x5_1).f2,wrap64 ((wrap64 ((wrap64 (x1_1 + 1)) + 1)) + 1)⟩ : S127)) (wrap64 ((wrap64 ((wrap64 ((wrap64 (x1_1 + 1)) + 1)) + 1)) + 1)) (wrap64 (x5_1 + 1))))) = some (r1,r2):=by first|(rw [hy239];with_reducible exact H)|(have H2_:=(Option.bind_some _ _).symm.trans H;rw [hy239];with_reducible exact H2_)|(have H2_:=(Option.bind_some _ _).symm.trans H;with_reducible exact H2_)|with_reducible exact H|(rw [hy239];exact H)|exact H
     have Ny239:=A_ hy239;clear hy239;obtain ⟨y240,hy240⟩ : ∃ y_ : List (S127),y_ = (y239.set (x5_1 : Int).toNat (⟨(rd_T127 y239 x5_1).f0,wrap64 (x1_1 + 1),(rd_T127 y239 x5_1).f2,(rd_T127 y239 x5_1).f3⟩ : S127)):=⟨_,rfl⟩
     replace H : ((some (y240.set (x5_1 : Int).toNat (⟨(rd_T127 y240 x5_1).f0,(rd_T127 y240 x5_1).f1,wrap64 ((wrap64 (x1_1 + 1)) + 1),(rd_T127 y240 x5_1).f3⟩ : S127) : List (S127))).bind fun y241 => (laws_markSpotS.l0 k1 (y241.set (x5_1 : Int).toNat (⟨(rd_T127 y241 x5_1).f0,(rd_T127 y241 x5_1).f1,(rd_T127 y241 x5_1).f2,wrap64 ((wrap64 ((wrap64 (x1_1 + 1)) + 1)) + 1)⟩ : S127)) (wrap64 ((wrap64 ((wrap64 ((wrap64 (x1_1 + 1)) + 1)) + 1)) + 1)) (wrap64 (x5_1 + 1)))) = some (r1,r2):=by first|(rw [hy240];with_reducible exact H)|(have H2_:=(Option.bind_some _ _).symm.trans H;rw [hy240];with_reducible exact H2_)|(have H2_:=(Option.bind_some _ _).symm.trans H;with_reducible exact H2_)|with_reducible exact H|(rw [hy240];exact H)|exact H
     have Ny240:=A_ hy240;clear hy240;obtain ⟨y241,hy241⟩ : ∃ y_ : List (S127),y_ = (y240.set (x5_1 : Int).toNat (⟨(rd_T127 y240 x5_1).f0,(rd_T127 y240 x5_1).f1,wrap64 ((wrap64 (x1_1 + 1)) + 1),(rd_T127 y240 x5_1).f3⟩ : S127)):=⟨_,rfl⟩
     replace H : (laws_markSpotS.l0 k1 (y241.set (x5_1 : Int).toNat (⟨(rd_T127 y241 x5_1).f0,(rd_T127 y241 x5_1).f1,(rd_T127 y241 x5_1).f2,wrap64 ((wrap64 ((wrap64 (x1_1 + 1)) + 1)) + 1)⟩ : S127)) (wrap64 ((wrap64 ((wrap64 ((wrap64 (x1_1 + 1)) + 1)) + 1)) + 1)) (wrap64 (x5_1 + 1))) = some (r1,r2):=by first|(rw [hy241];with_reducible exact H)|(have H2_:=(Option.bind_some _ _).symm.trans H;rw [hy241];with_reducible exact H2_)|(have H2_:=(Option.bind_some _ _).symm.trans H;with_reducible exact H2_)|with_reducible exact H|(rw [hy241];exact H)|exact H
     have Ny241:=A_ hy241;clear hy241;obtain ⟨y242,hy242⟩ : ∃ y_ : List (S127),y_ = (y241.set (x5_1 : Int).toNat (⟨(rd_T127 y241 x5_1).f0,(rd_T127 y241 x5_1).f1,(rd_T127 y241 x5_1).f2,wrap64 ((wrap64 ((wrap64 (x1_1 + 1)) + 1)) + 1)⟩ : S127)):=⟨_,rfl⟩
     replace H : (laws_markSpotS.l0 k1 y242 (wrap64 ((wrap64 ((wrap64 ((wrap64 (x1_1 + 1)) + 1)) + 1)) + 1)) (wrap64 (x5_1 + 1))) = some (r1,r2):=by first|(rw [hy242];with_reducible exact H)|(have H2_:=(Option.bind_some _ _).symm.trans H;rw [hy242];with_reducible exact H2_)|(have H2_:=(Option.bind_some _ _).symm.trans H;with_reducible exact H2_)|with_reducible exact H|(rw [hy242];exact H)|exact H
     have Ny242:=A_ hy242;clear hy242;have H':=A_ H;clear H;obtain ⟨Ao10,co10,eo10⟩:=Kd.R_slice HO_0.out;subst eo10
     go_wp2_with (first|((with_reducible refine gate_callee (f:=114) rfl ?_);refine gL_ (some 15) Try.func114 #[.int .i64 x1_1] ?_;(with_reducible refine (laws_markText.calls k1 x1_1 t238 _ A4.out).mono ?_);rintro e w11 ⟨rfl,hb⟩;refine ⟨_,rfl,?_⟩;replace HO_0:=rB_ HO_0 hb;replace HK:=A_ (Kept.below (S:=(fun k_ => P0_ k_)) (by repeat (first|(with_reducible first|exact HK.out|apply Kept.alloc|apply Kept.drewN|apply Kept.drew)|exact HK.out)) hb);replace HB:=bS_ HB hb;(try clear hb);have p6 : 0 ≤ (x5_1 : Int):=oda_;have q6 : (x5_1 : Int) < ((x0_1.length : Int) : Int):=oda_;obtain ⟨go6,co6,eo6,gb6,gl6,cl6,HG6⟩:=Kd.R_form HO_0.out (by omega);(first|cases eo6|(injection eo6 with ea_ en_ ec_;(first|subst ea_|(injection ea_ with ea_;subst ea_));subst ec_;clear en_));have GB6:=A_ gb6;have GG6:=A_ HG6;clear gb6 gl6 HG6;have HMgo6:=A_ (show (P0_ go6 ∨ w.heap.size ≤ go6) from (HO_0.out.1 _ rfl));obtain ⟨ce6,hcl6,hM6,hcc6,hfr6⟩:=Kd.R_elem HO_0.out z127 (x5_1 : Int) p6 q6;obtain rfl:=k127_openM hM6;have hx6_0 : w11.cell? ⟨go6,(x5_1 : Int).toNat * 4,none⟩ = some (.string ((rd_T127 x0_1 x5_1).f0)):=hcc6 0 _ rfl;have hx6_1 : w11.cell? ⟨go6,(x5_1 : Int).toNat * 4 + 1,none⟩ = some (.int .i64 ((rd_T127 x0_1 x5_1).f1)):=hcc6 1 _ rfl;have hx6_2 : w11.cell? ⟨go6,(x5_1 : Int).toNat * 4 + 2,none⟩ = some (.int .i64 ((rd_T127 x0_1 x5_1).f2)):=hcc6 2 _ rfl;have hx6_3 : w11.cell? ⟨go6,(x5_1 : Int).toNat * 4 + 3,none⟩ = some (.int .i64 ((rd_T127 x0_1 x5_1).f3)):=hcc6 3 _ rfl;have hf6_0 : w11.frozen? ⟨go6,(x5_1 : Int).toNat * 4,none⟩ = false:=hfr6 0;have hf6_1 : w11.frozen? ⟨go6,(x5_1 : Int).toNat * 4 + 1,none⟩ = false:=hfr6 1;have hf6_2 : w11.frozen? ⟨go6,(x5_1 : Int).toNat * 4 + 2,none⟩ = false:=hfr6 2;have hf6_3 : w11.frozen? ⟨go6,(x5_1 : Int).toNat * 4 + 3,none⟩ = false:=hfr6 3;clear hcl6 hcc6 hfr6 hM6;replace p6:=eq_true p6;replace q6:=eq_true q6;have HX12:=A_ (show Kd.R k127 127 w11 w0.heap.size (fun k_ => (P0_ k_ ∨ w.heap.size ≤ k_)) (.slice (some ⟨go6,0,none⟩) x0_1.length co10) x0_1 from (rq_ HO_0));obtain ⟨ce12,hcl12,hM12,hcc12,hfr12⟩:=Kd.R_elem HX12.out z127 (x5_1 : Int) (oda_) (by have h_ : (x5_1 : Int) < ((x0_1.length : Int) : Int):=oda_;first|exact h_|(have e_:=(Kd.R_reads' HO_0.out).1;omega)|simpa using h_);obtain rfl:=k127_openM hM12;have HP12:=Kd.R_seg HX12.out (x5_1 : Int) (oda_) (by have h_ : (x5_1 : Int) < ((x0_1.length : Int) : Int):=oda_;first|exact h_|(have e_:=(Kd.R_reads' HO_0.out).1;omega)|simpa using h_) (seg:=[.string t238]) (j:=0) hcl12 hcc12 (show 1 ≤ 4 from by decide) (x':=(⟨t238,(rd_T127 x0_1 x5_1).f1,(rd_T127 x0_1 x5_1).f2,(rd_T127 x0_1 x5_1).f3⟩ : S127)) (k127_mkM _ _ _ (⟨t238,(rd_T127 x0_1 x5_1).f1,(rd_T127 x0_1 x5_1).f2,(rd_T127 x0_1 x5_1).f3⟩ : S127) ) (fun _ hk => hk);have hx12_0:=hcc12 0 _ rfl;(try simp only [show (k127).sz = 4 from rfl,Nat.mul_one,Nat.add_zero] at hx12_0);have hf12_0:=hfr12 0;(try simp only [show (k127).sz = 4 from rfl,Nat.mul_one,Nat.add_zero] at hf12_0);clear hcl12 hcc12 hfr12 hM12)|((with_reducible refine gate_store (t:=9) (p:=17) rfl ?_);refine store_event (t:=9) (p:=17) (v:=?vo_w13) (w1:=(w11.setCell ⟨go6,(x5_1 : Int).toNat * 4,none⟩ (.string t238))) ?hg ?ho ?hn ?hr ?_;(case ho => rfl);(case hg => rfl);(case hn => rfl);(case hr => exact gx_);intro w13 hw;have hg : w11.grownBy w13 (some go6):=(by rw [hw];exact HP12.2);have hp_ : Kd.R k127 127 w13 w0.heap.size (fun k_ => (P0_ k_ ∨ w.heap.size ≤ k_)) (.slice (some ⟨go6,0,none⟩) x0_1.length co10) y239:=(by rw [hw,Ny239.out];exact HP12.1);clear HP12;replace HB:=A_ ((by rw [hw];exact ps_ (HB.out) GB6.out : Below w0.heap.size w0 w13));replace HK:=A_ (Kept.of_grown (S:=(fun k_ => P0_ k_)) hg (by repeat (first|(with_reducible first|exact HK.out|apply Kept.alloc|apply Kept.drewN|apply Kept.drew)|exact HK.out)) (fun k_ e_ => (HO_0.out.1 k_ e_)));replace HO_0:=A_ (hp_);clear hg hw hp_;have p7 : 0 ≤ (x5_1 : Int):=oda_;have q7 : (x5_1 : Int) < ((x0_1.length : Int) : Int):=oda_;obtain ⟨ce7,hcl7,hM7,hcc7,hfr7⟩:=Kd.R_elem HO_0.out z127 (x5_1 : Int) p7 q7;obtain rfl:=k127_openM hM7;have hx7_0 : w13.cell? ⟨go6,(x5_1 : Int).toNat * 4,none⟩ = some (.string ((rd_T127 y239 x5_1).f0)):=hcc7 0 _ rfl;have hx7_1 : w13.cell? ⟨go6,(x5_1 : Int).toNat * 4 + 1,none⟩ = some (.int .i64 ((rd_T127 y239 x5_1).f1)):=hcc7 1 _ rfl;have hx7_2 : w13.cell? ⟨go6,(x5_1 : Int).toNat * 4 + 2,none⟩ = some (.int .i64 ((rd_T127 y239 x5_1).f2)):=hcc7 2 _ rfl;have hx7_3 : w13.cell? ⟨go6,(x5_1 : Int).toNat * 4 + 3,none⟩ = some (.int .i64 ((rd_T127 y239 x5_1).f3)):=hcc7 3 _ rfl;have hf7_0 : w13.frozen? ⟨go6,(x5_1 : Int).toNat * 4,none⟩ = false:=hfr7 0;have hf7_1 : w13.frozen? ⟨go6,(x5_1 : Int).toNat * 4 + 1,none⟩ = false:=hfr7 1;have hf7_2 : w13.frozen? ⟨go6,(x5_1 : Int).toNat * 4 + 2,none⟩ = false:=hfr7 2;have hf7_3 : w13.frozen? ⟨go6,(x5_1 : Int).toNat * 4 + 3,none⟩ = false:=hfr7 3;clear hcl7 hcc7 hfr7 hM7;replace p7:=eq_true p7;replace q7:=eq_true q7;have HX14:=A_ (show Kd.R k127 127 w13 w0.heap.size (fun k_ => (P0_ k_ ∨ w.heap.size ≤ k_)) (.slice (some ⟨go6,0,none⟩) x0_1.length co10) y239 from (rq_ HO_0));obtain ⟨ce14,hcl14,hM14,hcc14,hfr14⟩:=Kd.R_elem HX14.out z127 (x5_1 : Int) (oda_) (by have h_ : (x5_1 : Int) < ((x0_1.length : Int) : Int):=oda_;first|exact h_|(have e_:=(Kd.R_reads' HO_0.out).1;omega)|simpa using h_);obtain rfl:=k127_openM hM14;have HP14:=Kd.R_seg HX14.out (x5_1 : Int) (oda_) (by have h_ : (x5_1 : Int) < ((x0_1.length : Int) : Int):=oda_;first|exact h_|(have e_:=(Kd.R_reads' HO_0.out).1;omega)|simpa using h_) (seg:=[.int .i64 (wrap64 (x1_1 + 1))]) (j:=1) hcl14 hcc14 (show 2 ≤ 4 from by decide) (x':=(⟨(rd_T127 y239 x5_1).f0,wrap64 (x1_1 + 1),(rd_T127 y239 x5_1).f2,(rd_T127 y239 x5_1).f3⟩ : S127)) (k127_mkM _ _ _ (⟨(rd_T127 y239 x5_1).f0,wrap64 (x1_1 + 1),(rd_T127 y239 x5_1).f2,(rd_T127 y239 x5_1).f3⟩ : S127) ) (fun _ hk => hk);have hx14_1:=hcc14 1 _ rfl;(try simp only [show (k127).sz = 4 from rfl,Nat.mul_one,Nat.add_zero] at hx14_1);have hf14_1:=hfr14 1;(try simp only [show (k127).sz = 4 from rfl,Nat.mul_one,Nat.add_zero] at hf14_1);clear hcl14 hcc14 hfr14 hM14)|((with_reducible refine gate_store (t:=3) (p:=24) rfl ?_);refine store_event (t:=3) (p:=24) (v:=?vo_w15) (w1:=(w13.setCell ⟨go6,(x5_1 : Int).toNat * 4 + 1,none⟩ (.int .i64 (wrap64 (x1_1 + 1))))) ?hg ?ho ?hn ?hr ?_;(case ho => rfl);(case hg => rfl);(case hn => rfl);(case hr => exact gx_);intro w15 hw;have hg : w13.grownBy w15 (some go6):=(by rw [hw];exact HP14.2);have hp_ : Kd.R k127 127 w15 w0.heap.size (fun k_ => (P0_ k_ ∨ w.heap.size ≤ k_)) (.slice (some ⟨go6,0,none⟩) x0_1.length co10) y240:=(by rw [hw,Ny240.out];exact HP14.1);clear HP14;replace HB:=A_ ((by rw [hw];exact ps_ (HB.out) GB6.out : Below w0.heap.size w0 w15));replace HK:=A_ (Kept.of_grown (S:=(fun k_ => P0_ k_)) hg (by repeat (first|(with_reducible first|exact HK.out|apply Kept.alloc|apply Kept.drewN|apply Kept.drew)|exact HK.out)) (fun k_ e_ => (HO_0.out.1 k_ e_)));replace HO_0:=A_ (hp_);clear hg hw hp_;have p8 : 0 ≤ (x5_1 : Int):=oda_;have q8 : (x5_1 : Int) < ((x0_1.length : Int) : Int):=oda_;obtain ⟨ce8,hcl8,hM8,hcc8,hfr8⟩:=Kd.R_elem HO_0.out z127 (x5_1 : Int) p8 q8;obtain rfl:=k127_openM hM8;have hx8_0 : w15.cell? ⟨go6,(x5_1 : Int).toNat * 4,none⟩ = some (.string ((rd_T127 y240 x5_1).f0)):=hcc8 0 _ rfl;have hx8_1 : w15.cell? ⟨go6,(x5_1 : Int).toNat * 4 + 1,none⟩ = some (.int .i64 ((rd_T127 y240 x5_1).f1)):=hcc8 1 _ rfl;have hx8_2 : w15.cell? ⟨go6,(x5_1 : Int).toNat * 4 + 2,none⟩ = some (.int .i64 ((rd_T127 y240 x5_1).f2)):=hcc8 2 _ rfl;have hx8_3 : w15.cell? ⟨go6,(x5_1 : Int).toNat * 4 + 3,none⟩ = some (.int .i64 ((rd_T127 y240 x5_1).f3)):=hcc8 3 _ rfl;have hf8_0 : w15.frozen? ⟨go6,(x5_1 : Int).toNat * 4,none⟩ = false:=hfr8 0;have hf8_1 : w15.frozen? ⟨go6,(x5_1 : Int).toNat * 4 + 1,none⟩ = false:=hfr8 1;have hf8_2 : w15.frozen? ⟨go6,(x5_1 : Int).toNat * 4 + 2,none⟩ = false:=hfr8 2;have hf8_3 : w15.frozen? ⟨go6,(x5_1 : Int).toNat * 4 + 3,none⟩ = false:=hfr8 3;clear hcl8 hcc8 hfr8 hM8;replace p8:=eq_true p8;replace q8:=eq_true q8;have HX16:=A_ (show Kd.R k127 127 w15 w0.heap.size (fun k_ => (P0_ k_ ∨ w.heap.size ≤ k_)) (.slice (some ⟨go6,0,none⟩) x0_1.length co10) y240 from (rq_ HO_0));obtain ⟨ce16,hcl16,hM16,hcc16,hfr16⟩:=Kd.R_elem HX16.out z127 (x5_1 : Int) (oda_) (by have h_ : (x5_1 : Int) < ((x0_1.length : Int) : Int):=oda_;first|exact h_|(have e_:=(Kd.R_reads' HO_0.out).1;omega)|simpa using h_);obtain rfl:=k127_openM hM16;have HP16:=Kd.R_seg HX16.out (x5_1 : Int) (oda_) (by have h_ : (x5_1 : Int) < ((x0_1.length : Int) : Int):=oda_;first|exact h_|(have e_:=(Kd.R_reads' HO_0.out).1;omega)|simpa using h_) (seg:=[.int .i64 (wrap64 ((wrap64 (x1_1 + 1)) + 1))]) (j:=2) hcl16 hcc16 (show 3 ≤ 4 from by decide) (x':=(⟨(rd_T127 y240 x5_1).f0,(rd_T127 y240 x5_1).f1,wrap64 ((wrap64 (x1_1 + 1)) + 1),(rd_T127 y240 x5_1).f3⟩ : S127)) (k127_mkM _ _ _ (⟨(rd_T127 y240 x5_1).f0,(rd_T127 y240 x5_1).f1,wrap64 ((wrap64 (x1_1 + 1)) + 1),(rd_T127 y240 x5_1).f3⟩ : S127) ) (fun _ hk => hk);have hx16_2:=hcc16 2 _ rfl;(try simp only [show (k127).sz = 4 from rfl,Nat.mul_one,Nat.add_zero] at hx16_2);have hf16_2:=hfr16 2;(try simp only [show (k127).sz = 4 from rfl,Nat.mul_one,Nat.add_zero] at hf16_2);clear hcl16 hcc16 hfr16 hM16)|((with_reducible refine gate_store (t:=3) (p:=31) rfl ?_);refine store_event (t:=3) (p:=31) (v:=?vo_w17) (w1:=(w15.setCell ⟨go6,(x5_1 : Int).toNat * 4 + 2,none⟩ (.int .i64 (wrap64 ((wrap64 (x1_1 + 1)) + 1))))) ?hg ?ho ?hn ?hr ?_;(case ho => rfl);(case hg => rfl);(case hn => rfl);(case hr => exact gx_);intro w17 hw;have hg : w15.grownBy w17 (some go6):=(by rw [hw];exact HP16.2);have hp_ : Kd.R k127 127 w17 w0.heap.size (fun k_ => (P0_ k_ ∨ w.heap.size ≤ k_)) (.slice (some ⟨go6,0,none⟩) x0_1.length co10) y241:=(by rw [hw,Ny241.out];exact HP16.1);clear HP16;replace HB:=A_ ((by rw [hw];exact ps_ (HB.out) GB6.out : Below w0.heap.size w0 w17));replace HK:=A_ (Kept.of_grown (S:=(fun k_ => P0_ k_)) hg (by repeat (first|(with_reducible first|exact HK.out|apply Kept.alloc|apply Kept.drewN|apply Kept.drew)|exact HK.out)) (fun k_ e_ => (HO_0.out.1 k_ e_)));replace HO_0:=A_ (hp_);clear hg hw hp_;have p9 : 0 ≤ (x5_1 : Int):=oda_;have q9 : (x5_1 : Int) < ((x0_1.length : Int) : Int):=oda_;obtain ⟨ce9,hcl9,hM9,hcc9,hfr9⟩:=Kd.R_elem HO_0.out z127 (x5_1 : Int) p9 q9;obtain rfl:=k127_openM hM9;have hx9_0 : w17.cell? ⟨go6,(x5_1 : Int).toNat * 4,none⟩ = some (.string ((rd_T127 y241 x5_1).f0)):=hcc9 0 _ rfl;have hx9_1 : w17.cell? ⟨go6,(x5_1 : Int).toNat * 4 + 1,none⟩ = some (.int .i64 ((rd_T127 y241 x5_1).f1)):=hcc9 1 _ rfl;have hx9_2 : w17.cell? ⟨go6,(x5_1 : Int).toNat * 4 + 2,none⟩ = some (.int .i64 ((rd_T127 y241 x5_1).f2)):=hcc9 2 _ rfl;have hx9_3 : w17.cell? ⟨go6,(x5_1 : Int).toNat * 4 + 3,none⟩ = some (.int .i64 ((rd_T127 y241 x5_1).f3)):=hcc9 3 _ rfl;have hf9_0 : w17.frozen? ⟨go6,(x5_1 : Int).toNat * 4,none⟩ = false:=hfr9 0;have hf9_1 : w17.frozen? ⟨go6,(x5_1 : Int).toNat * 4 + 1,none⟩ = false:=hfr9 1;have hf9_2 : w17.frozen? ⟨go6,(x5_1 : Int).toNat * 4 + 2,none⟩ = false:=hfr9 2;have hf9_3 : w17.frozen? ⟨go6,(x5_1 : Int).toNat * 4 + 3,none⟩ = false:=hfr9 3;clear hcl9 hcc9 hfr9 hM9;replace p9:=eq_true p9;replace q9:=eq_true q9;have HX18:=A_ (show Kd.R k127 127 w17 w0.heap.size (fun k_ => (P0_ k_ ∨ w.heap.size ≤ k_)) (.slice (some ⟨go6,0,none⟩) x0_1.length co10) y241 from (rq_ HO_0));obtain ⟨ce18,hcl18,hM18,hcc18,hfr18⟩:=Kd.R_elem HX18.out z127 (x5_1 : Int) (oda_) (by have h_ : (x5_1 : Int) < ((x0_1.length : Int) : Int):=oda_;first|exact h_|(have e_:=(Kd.R_reads' HO_0.out).1;omega)|simpa using h_);obtain rfl:=k127_openM hM18;have HP18:=Kd.R_seg HX18.out (x5_1 : Int) (oda_) (by have h_ : (x5_1 : Int) < ((x0_1.length : Int) : Int):=oda_;first|exact h_|(have e_:=(Kd.R_reads' HO_0.out).1;omega)|simpa using h_) (seg:=[.int .i64 (wrap64 ((wrap64 ((wrap64 (x1_1 + 1)) + 1)) + 1))]) (j:=3) hcl18 hcc18 (show 4 ≤ 4 from by decide) (x':=(⟨(rd_T127 y241 x5_1).f0,(rd_T127 y241 x5_1).f1,(rd_T127 y241 x5_1).f2,wrap64 ((wrap64 ((wrap64 (x1_1 + 1)) + 1)) + 1)⟩ : S127)) (k127_mkM _ _ _ (⟨(rd_T127 y241 x5_1).f0,(rd_T127 y241 x5_1).f1,(rd_T127 y241 x5_1).f2,wrap64 ((wrap64 ((wrap64 (x1_1 + 1)) + 1)) + 1)⟩ : S127) ) (fun _ hk => hk);have hx18_3:=hcc18 3 _ rfl;(try simp only [show (k127).sz = 4 from rfl,Nat.mul_one,Nat.add_zero] at hx18_3);have hf18_3:=hfr18 3;(try simp only [show (k127).sz = 4 from rfl,Nat.mul_one,Nat.add_zero] at hf18_3);clear hcl18 hcc18 hfr18 hM18)|((with_reducible refine gate_store (t:=3) (p:=38) rfl ?_);refine store_event (t:=3) (p:=38) (v:=?vo_w19) (w1:=(w17.setCell ⟨go6,(x5_1 : Int).toNat * 4 + 3,none⟩ (.int .i64 (wrap64 ((wrap64 ((wrap64 (x1_1 + 1)) + 1)) + 1))))) ?hg ?ho ?hn ?hr ?_;(case ho => rfl);(case hg => rfl);(case hn => rfl);(case hr => exact gx_);intro w19 hw;have hg : w17.grownBy w19 (some go6):=(by rw [hw];exact HP18.2);have hp_ : Kd.R k127 127 w19 w0.heap.size (fun k_ => (P0_ k_ ∨ w.heap.size ≤ k_)) (.slice (some ⟨go6,0,none⟩) x0_1.length co10) y242:=(by rw [hw,Ny242.out];exact HP18.1);clear HP18;replace HB:=A_ ((by rw [hw];exact ps_ (HB.out) GB6.out : Below w0.heap.size w0 w19));replace HK:=A_ (Kept.of_grown (S:=(fun k_ => P0_ k_)) hg (by repeat (first|(with_reducible first|exact HK.out|apply Kept.alloc|apply Kept.drewN|apply Kept.drew)|exact HK.out)) (fun k_ e_ => (HO_0.out.1 k_ e_)));replace HO_0:=A_ (hp_);clear hg hw hp_))
     go_roundg k1
     case measure => have:=HK1.out;omega
     case rel => exact ⟨(y242),(wrap64 ((wrap64 ((wrap64 ((wrap64 (x1_1 + 1)) + 1)) + 1)) + 1)),(wrap64 (x5_1 + 1)),(by first|rfl|(simp;done)|(simp [*];done)),(by first|rfl|(simp;done)|(simp [*];done)),H',⟨by have:=HK1.out;omega⟩,⟨by (with_reducible repeat (first|apply ra_|apply rn_|apply Rd_));exact HO_0.out⟩,⟨by repeat (first|(with_reducible first|exact HK.out|apply Kept.alloc|apply Kept.drewN|apply Kept.drew)|exact HK.out)⟩,⟨bq_ HB⟩⟩
    ·rw [if_neg c5] at H;exact absurd H (by simp)
   ·rw [if_neg c3] at H;have c3b0 : decide (x5_1 < (x0_1.length : Int)) = false:=decide_eq_false c3;clear c3;simp only [Option.some.injEq,Prod.mk.injEq] at H;obtain ⟨rfl,rfl⟩:=H;obtain ⟨Ao20,co20,eo20⟩:=Kd.R_slice HO_0.out;subst eo20;go_wp2;go_ret;exact ⟨ex_,by (with_reducible repeat (first|apply ra_|apply rn_|apply Rd_));exact HO_0.out,bq_ HB,by repeat (first|(with_reducible first|exact HK.out|apply Kept.alloc|apply Kept.drewN|apply Kept.drew)|exact HK.out)⟩
end Go.Proofs.Ytgpafelepkhdoaa.PFnExactReadHint
