/- The contracts of the Go functions that this law reaches: what each call returns, by a plain Lean function of its arguments. No conditions but those each contract names. By the kit's print.py, run by this session's wip/gen/pp.py with facts and hand proofs beside it: not to the letter what print.sh prints. -/
import Derived.Test.YtbcgnncbiblibaaPFnExactScanSegx0
import Derived.Test.YtbcgnncbiblibaaPFnExactScanSegx8
import Derived.Test.YtbcgnncbiblibaaPFnExactScanSegx10
namespace Go.Proofs.Ytbcgnncbiblibaa.PFnExactScanSeg
open Go.RowKit Go.Proofs.YtbcgnncbiblibaaW.PrintWords Go.Proofs.YtbcgnncbiblibaaW.PrintLast Go.Proofs.YtbcgnncbiblibaaW.PrintMore
attribute [local go_sem] max2_int min2_int max_two min_two max_three min_three max_four min_four
set_option linter.unusedVariables false
set_option linter.unusedSimpArgs false
def impl_reader_text.f (k : Nat) (s0_0 : ByteArray) (s0_1 : Int) (s0_2 : Bool) : Option (ByteArray × ByteArray × Int × Bool) := (impl_ReadShort.f k s0_0 s0_1).bind fun bt265 => (if s0_2 = true then (some ((⟨#[]⟩ : ByteArray), s0_0, s0_1, true)) else (if bt265.2.2 = true then (some (bt265.1, s0_0, bt265.2.1, s0_2)) else (some ((⟨#[]⟩ : ByteArray), s0_0, s0_1, true))))
theorem impl_reader_text.mono : ∀ a0 a1 a2 k, LeO (impl_reader_text.f k a0 a1 a2) (impl_reader_text.f (k + 1) a0 a1 a2) := by
 intro a0 a1 a2 k
 unfold impl_reader_text.f
 repeat' first
   | (with_reducible exact impl_ReadShort.mono _ _ _)
   | (with_reducible exact LeO.refl _)
   | (with_reducible exact LeO.none _)
   | (with_reducible refine LeO.ite ?_ ?_)
   | (with_reducible refine LeO.bind ?_ (fun _ => ?_))
def impl_reader_text.T1 : Bool × List (List Nat × List Nat) := (true, [([], []), ([0], [0]), ([1], [1]), ([2], [2]), ([], []), ([4], [4]), ([5], [5]), ([6], [6]), ([3, 7], [3, 7]), ([8], [8]), ([9], [9]), ([9], [9]), ([9], [9]), ([10, 8, 0, 1, 2, 3, 4, 5, 6, 7, 8, 9, 10], [10]), ([11, 13, 0, 1, 2, 3, 4, 5, 6, 7, 8, 9, 10, 11, 13], [11]), ([12, 14, 0, 1, 2, 3, 4, 5, 6, 7, 8, 9, 10, 11, 12, 13, 14], [12])])
def impl_reader_text.B1 : List Nat := [0, 1, 3, 7, 0, 16, 48, 112, 255, 511, 1023, 1023, 1023, 2047, 12287, 32767]
theorem impl_reader_text.tab1 : rtab .any (opsOf Try.f69 1) = impl_reader_text.T1 := by kernel_rfl
theorem impl_reader_text.bits1 : waitsOk impl_reader_text.T1.2 impl_reader_text.B1 = true := by kernel_rfl
set_option maxHeartbeats 8000000 in
set_option maxRecDepth 100000 in
theorem impl_reader_text.calls (k : Nat) (g : Nat) (s0_0 : ByteArray) (s0_1 : Int) (s0_2 : Bool) (r1 : ByteArray) (r2 : ByteArray) (r3 : Int) (r4 : Bool) (w0 w : World) (hI : IsS106 w0 w g s0_0 s0_1 s0_2) (hB : Below w0.heap.size w0 w) (h : impl_reader_text.f k s0_0 s0_1 s0_2 = some (r1, r2, r3, r4)) :
  Calls Try.prog 69 #[.pointer (some ⟨g,0,none⟩)] w fun e w' => e = .returned (.string r1) ∧ IsS106 w0 w' g r2 r3 r4 ∧ Below w0.heap.size w0 w' ∧ KeepBut w w' g none:=by
 have HI0:=A_ hI;have HK:=A_ (KeepBut.refl w g none);have HL:=A_ hB.size;clear hI;have HW0:=A_ hB.size;have HB:=A_ hB;clear hB;unfold impl_reader_text.f at h;have H:=h;clear h;replace H:=ob_.mp H;obtain ⟨⟨t265,t266,t267⟩,A20,H⟩:=H;(try dsimp only at H);have A2:=A_ A20;clear A20
 by_cases c3 : s0_2 = true
 ·subst c3
  rw [if_pos rfl] at H;simp only [Option.some.injEq,Prod.mk.injEq] at H;obtain ⟨rfl,rfl,rfl,rfl⟩:=H;go_enter Try.func69,Try.ntmps69
  try go_wp2
  replace HI0:=A_ (IsS106.drew HI0.out);replace HK:=A_ (keep_drew HK.out);replace HB:=A_ (pd_ HB.out);refine start_ (n:=16) (S:=fun w' => w'.cell? ⟨g,0,none⟩ = some (.string s0_0) ∧ w'.cell? ⟨g,1,none⟩ = some (.int .i64 s0_1) ∧ w'.cell? ⟨g,2,none⟩ = some (.bool true)) (ds:=[]) #[false,false,false,false,false,false,false,false,false,false,false,false,false,false,false,false] (by kernel_rfl) rfl rfl ⟨cellS106_0 HI0.out.1,cellS106_1 HI0.out.1,cellS106_2 HI0.out.1⟩ (fun hHeld => ?_);refine with_tabW impl_reader_text.tab1 impl_reader_text.bits1 (fun HT_ HW_ => ?_);generalize w.drew = w4 at HI0 HK HB hHeld ⊢;refine pU_ 0 (some 7) ?_
  refine pU_ 1 (some 8) ?_
  refine pU_ 2 (some 9) ?_
  refine pU_ 4 (some 11) ?_
  refine pU_ 5 (some 12) ?_
  refine pU_ 6 (some 13) ?_
  refine tK_ 3 (some 10) hHeld ?_
  refine tK_ 7 (some 14) hHeld ?_
  refine oN_ 8 (some 15) (fun K hK => ?_);refine gs_ Try.func109 #[.string s0_0,.int .i64 s0_1] ?_;with_reducible refine (impl_ReadShort.calls k s0_0 s0_1 t265 t266 t267 _ A2.out).mono ?_;rintro e w5 ⟨rfl,hb⟩;refine ⟨_,rfl,?_⟩;replace HK:=A_ (KeepBut.trans (hq_ HK) (KeepBut.of_below hb g none) (.inl rfl));replace HB:=A_ (bs_ (bi_ HB (IsS106.ge HI0.out)) hb);replace HI0:=A_ (IsS106.below (iq106_ HI0) hb)
  (try clear hb)
  refine hK.out _ _ ⟨cellS106_0 HI0.out.1,cellS106_1 HI0.out.1,cellS106_2 HI0.out.1⟩ (fun hHeld => ?_);clear hK K;refine nX_ (some 15) ?_
  refine pU_ 9 (some 6) ?_
  refine pU_ 10 (some 16) ?_
  refine pU_ 11 (some 17) ?_
  refine pU_ 12 (some 18) ?_
  refine pU_ 13 (some 3) ?_
  refine pU_ 14 (some 4) ?_
  refine pU_ 15 (some 5) ?_
  refine done_ (done_of HT_.out (by kernel_rfl)) ?_;obtain ⟨HGz6,hgz6⟩:=HI0.out;have hcz6_0:=cellS106_0 HGz6;have hcz6_1:=cellS106_1 HGz6;have hcz6_2:=cellS106_2 HGz6;have hfz6_0:=kf_ HGz6 0;have hfz6_1:=kf_ HGz6 1;have hfz6_2:=kf_ HGz6 2;clear HGz6 hgz6
  try go_wp2
  go_ret;exact ⟨ex_,iq106_ HI0,bi_ HB (IsS106.ge HI0.out),hq_ HK⟩
 ·replace c3:=Bool.eq_false_iff.mpr c3;subst c3
  have H1 : (if t267 = true then (some (t265,s0_0,t266,false)) else (some ((⟨#[]⟩ : ByteArray),s0_0,s0_1,true))) = some (r1,r2,r3,r4):=by rw [if_neg (show ¬ (false = true) by decide)] at H;exact H
  clear H;have H:=H1;clear H1
  by_cases c7 : t267 = true
  ·subst c7
   rw [if_pos rfl] at H;simp only [Option.some.injEq,Prod.mk.injEq] at H;obtain ⟨rfl,rfl,rfl,rfl⟩:=H;go_enter Try.func69,Try.ntmps69
   try go_wp2
   replace HI0:=A_ (IsS106.drew HI0.out);replace HK:=A_ (keep_drew HK.out);replace HB:=A_ (pd_ HB.out);refine start_ (n:=16) (S:=fun w' => w'.cell? ⟨g,0,none⟩ = some (.string s0_0) ∧ w'.cell? ⟨g,1,none⟩ = some (.int .i64 s0_1) ∧ w'.cell? ⟨g,2,none⟩ = some (.bool false)) (ds:=[]) #[false,false,false,false,false,false,false,false,false,false,false,false,false,false,false,false] (by kernel_rfl) rfl rfl ⟨cellS106_0 HI0.out.1,cellS106_1 HI0.out.1,cellS106_2 HI0.out.1⟩ (fun hHeld => ?_);refine with_tabW impl_reader_text.tab1 impl_reader_text.bits1 (fun HT_ HW_ => ?_);generalize w.drew = w8 at HI0 HK HB hHeld ⊢;refine pU_ 0 (some 7) ?_
   refine pU_ 1 (some 8) ?_
   refine pU_ 2 (some 9) ?_
   refine pU_ 4 (some 11) ?_
   refine pU_ 5 (some 12) ?_
   refine pU_ 6 (some 13) ?_
   refine tK_ 3 (some 10) hHeld ?_
   refine tK_ 7 (some 14) hHeld ?_
   refine oN_ 8 (some 15) (fun K hK => ?_);refine gs_ Try.func109 #[.string s0_0,.int .i64 s0_1] ?_;with_reducible refine (impl_ReadShort.calls k s0_0 s0_1 t265 t266 true _ A2.out).mono ?_;rintro e w9 ⟨rfl,hb⟩;refine ⟨_,rfl,?_⟩;replace HK:=A_ (KeepBut.trans (hq_ HK) (KeepBut.of_below hb g none) (.inl rfl));replace HB:=A_ (bs_ (bi_ HB (IsS106.ge HI0.out)) hb);replace HI0:=A_ (IsS106.below (iq106_ HI0) hb)
   (try clear hb)
   refine hK.out _ _ ⟨cellS106_0 HI0.out.1,cellS106_1 HI0.out.1,cellS106_2 HI0.out.1⟩ (fun hHeld => ?_);clear hK K;refine nX_ (some 15) ?_
   refine pU_ 9 (some 6) ?_
   refine pU_ 10 (some 16) ?_
   refine pU_ 11 (some 17) ?_
   refine pU_ 12 (some 18) ?_
   refine pU_ 13 (some 3) ?_
   refine pU_ 14 (some 4) ?_
   refine pU_ 15 (some 5) ?_
   refine done_ (done_of HT_.out (by kernel_rfl)) ?_;obtain ⟨HGz10,hgz10⟩:=HI0.out;have hcz10_0:=cellS106_0 HGz10;have hcz10_1:=cellS106_1 HGz10;have hcz10_2:=cellS106_2 HGz10;have hfz10_0:=kf_ HGz10 0;have hfz10_1:=kf_ HGz10 1;have hfz10_2:=kf_ HGz10 2;clear HGz10 hgz10
   try go_wp2
   go_ret;exact ⟨ex_,iq106_ HI0,bi_ HB (IsS106.ge HI0.out),hq_ HK⟩
  ·replace c7:=Bool.eq_false_iff.mpr c7;subst c7
   have H1 : (some ((⟨#[]⟩ : ByteArray),s0_0,s0_1,true)) = some (r1,r2,r3,r4):=by rw [if_neg (show ¬ (false = true) by decide)] at H;exact H
   clear H;have H:=H1;clear H1;simp only [Option.some.injEq,Prod.mk.injEq] at H;obtain ⟨rfl,rfl,rfl,rfl⟩:=H;go_enter Try.func69,Try.ntmps69
   try go_wp2
   replace HI0:=A_ (IsS106.drew HI0.out);replace HK:=A_ (keep_drew HK.out);replace HB:=A_ (pd_ HB.out);refine start_ (n:=16) (S:=fun w' => w'.cell? ⟨g,0,none⟩ = some (.string s0_0) ∧ w'.cell? ⟨g,1,none⟩ = some (.int .i64 s0_1) ∧ w'.cell? ⟨g,2,none⟩ = some (.bool false)) (ds:=[]) #[false,false,false,false,false,false,false,false,false,false,false,false,false,false,false,false] (by kernel_rfl) rfl rfl ⟨cellS106_0 HI0.out.1,cellS106_1 HI0.out.1,cellS106_2 HI0.out.1⟩ (fun hHeld => ?_);refine with_tabW impl_reader_text.tab1 impl_reader_text.bits1 (fun HT_ HW_ => ?_);generalize w.drew = w11 at HI0 HK HB hHeld ⊢;refine pU_ 0 (some 7) ?_
   refine pU_ 1 (some 8) ?_
   refine pU_ 2 (some 9) ?_
   refine pU_ 4 (some 11) ?_
   refine pU_ 5 (some 12) ?_
   refine pU_ 6 (some 13) ?_
   refine tK_ 3 (some 10) hHeld ?_
   refine tK_ 7 (some 14) hHeld ?_
   refine oN_ 8 (some 15) (fun K hK => ?_);refine gs_ Try.func109 #[.string s0_0,.int .i64 s0_1] ?_;with_reducible refine (impl_ReadShort.calls k s0_0 s0_1 t265 t266 false _ A2.out).mono ?_;rintro e w12 ⟨rfl,hb⟩;refine ⟨_,rfl,?_⟩;replace HK:=A_ (KeepBut.trans (hq_ HK) (KeepBut.of_below hb g none) (.inl rfl));replace HB:=A_ (bs_ (bi_ HB (IsS106.ge HI0.out)) hb);replace HI0:=A_ (IsS106.below (iq106_ HI0) hb)
   (try clear hb)
   refine hK.out _ _ ⟨cellS106_0 HI0.out.1,cellS106_1 HI0.out.1,cellS106_2 HI0.out.1⟩ (fun hHeld => ?_);clear hK K;refine nX_ (some 15) ?_
   refine pU_ 9 (some 6) ?_
   refine pU_ 10 (some 16) ?_
   refine pU_ 11 (some 17) ?_
   refine pU_ 12 (some 18) ?_
   refine pU_ 13 (some 3) ?_
   refine pU_ 14 (some 4) ?_
   refine pU_ 15 (some 5) ?_
   refine done_ (done_of HT_.out (by kernel_rfl)) ?_;obtain ⟨HGz13,hgz13⟩:=HI0.out;have hcz13_0:=cellS106_0 HGz13;have hcz13_1:=cellS106_1 HGz13;have hcz13_2:=cellS106_2 HGz13;have hfz13_0:=kf_ HGz13 0;have hfz13_1:=kf_ HGz13 1;have hfz13_2:=kf_ HGz13 2;clear HGz13 hgz13
   try go_wp2
   go_ret;exact ⟨ex_,iq106_ HI0,bi_ HB (IsS106.ge HI0.out),hq_ HK⟩
def impl_vars.l0 : Nat → List Int → List Int → Int → Int → Option (ByteArray × Bool)
 | 0,_,_,_,_ => none
 | k + 1,x4,x9,x10,x11 => if x11 < x10 then (if 0 ≤ x11 then (if x11 < (x9.length : Int) then ((impl_VarText.f k (rd x9 x11)).bind fun bt269 => (if bt269.2 = true then (if x4.length + bt269.1.size < 140737488355328 then (impl_vars.l0 k (x4 ++ bytesOf bt269.1) x9 x10 (wrap64 (x11 + 1))) else (none)) else (some ((⟨#[]⟩ : ByteArray),false)))) else (none)) else (none)) else (some (strOfNums x4,true))
def impl_vars.f (k : Nat) (l0 : List Int) : Option (ByteArray × Bool) := impl_vars.l0 k ([] : List Int) l0 (l0.length : Int) 0
theorem impl_vars.mono_l : ∀ k, (∀ y0 y1 y2 y3, LeO (impl_vars.l0 k y0 y1 y2 y3) (impl_vars.l0 (k + 1) y0 y1 y2 y3))
 | 0 => fun _ _ _ _ r h => by simp [impl_vars.l0] at h
 | k + 1 => by
  have ih0:=impl_vars.mono_l k
  ·intro y0 y1 y2 y3
   unfold impl_vars.l0
   repeat' first
   | (with_reducible exact ih0 _ _ _ _)
   | (with_reducible exact impl_VarText.mono _ _)
   | (with_reducible exact LeO.refl _)
   | (with_reducible exact LeO.none _)
   | (with_reducible refine LeO.ite ?_ ?_)
   | (with_reducible refine LeO.bind ?_ (fun _ => ?_))
theorem impl_vars.mono : ∀ a0 k, LeO (impl_vars.f k a0) (impl_vars.f (k + 1) a0) := by
 intro a0 k;have ih0:=impl_vars.mono_l k
 unfold impl_vars.f
 repeat' first
   | (with_reducible exact ih0 _ _ _ _)
   | (with_reducible exact impl_VarText.mono _ _)
   | (with_reducible exact LeO.refl _)
   | (with_reducible exact LeO.none _)
   | (with_reducible refine LeO.ite ?_ ?_)
   | (with_reducible refine LeO.bind ?_ (fun _ => ?_))
set_option maxHeartbeats 8000000 in
set_option maxRecDepth 100000 in
theorem impl_vars.calls (k : Nat) (A0 : Option Addr) (c0 : Nat) (l0 : List Int) (r1 : ByteArray) (r2 : Bool) (w : World) (hr0 : Kd.C (Kd.int .i64) w A0 l0.length l0) (hc0 : l0.length ≤ c0) (h : impl_vars.f k l0 = some (r1, r2)) :
  Calls Try.prog 76 #[.slice A0 l0.length c0] w fun e w' => e = .returned (.tuple #[.string r1,.bool r2]) ∧ Below w.heap.size w w':=by
 have HR0:=A_ hr0;have HC0:=A_ hc0;clear hr0 hc0;have HB:=A_ (Below.refl w.heap.size w);unfold impl_vars.f at h;have H:=h;clear h;have H':=A_ H;clear H;go_enter Try.func76,Try.ntmps76;go_wp2
 go_loopg [4,11] k (fun kq v4 v11 w' => ∃ (x4_1 : List Int) (x11_1 : Int),v11 = .int .i64 x11_1 ∧ Aside0 (impl_vars.l0 kq x4_1 l0 (l0.length : Int) x11_1 = some (r1,r2)) ∧ Aside0 (kq ≤ k) ∧ Aside0 (Kd.R (Kd.int .u8) 5 w' w.heap.size (fun _ => True) v4 x4_1) ∧ Aside0 (Below w.heap.size w w'))
 case atStart => exact ⟨(([] : List Int)),(0),(by first|rfl|(simp;done)|(simp [*];done)),H',⟨Nat.le_refl _⟩,⟨by first|exact Kd.R_nil _ _ _ _ _|exact Kd.N_nil _ _ _ _ _|exact Kd.V_nil _ _ _ _ _|exact Kd.Q_nil _ _ _ _ _|exact Kd.S_nil _ _ _ _ _⟩,⟨bq_ HB⟩⟩
 case round =>
  clear H';obtain ⟨x4_1,x11_1,rfl,HA,HK1,HO_4,HB⟩:=hrel
  cases gk with
  | zero => exact absurd HA.out (by simp [impl_vars.l0])
  | succ k1 =>
   have H:=HA.out;clear HA;simp only [impl_vars.l0] at H
   by_cases c2 : x11_1 < (l0.length : Int)
   ·rw [if_pos c2] at H;have c2b0 : decide (x11_1 < (l0.length : Int)) = true:=de_ c2;clear c2
    by_cases c3 : 0 ≤ x11_1
    ·rw [if_pos c3] at H;have c3b0 : decide (0 ≤ x11_1) = true:=de_ c3;clear c3
     by_cases c4 : x11_1 < (l0.length : Int)
     ·rw [if_pos c4] at H;have c4b0 : decide (x11_1 < (l0.length : Int)) = true:=de_ c4;clear c4;replace H:=ob_.mp H;obtain ⟨⟨t269,t270⟩,A50,H⟩:=H;(try dsimp only at H);have A5:=A_ A50;clear A50
      by_cases c6 : t270 = true
      ·subst c6
       rw [if_pos rfl] at H
       by_cases c7 : x4_1.length + t269.size < 140737488355328
       ·rw [if_pos c7] at H;have LMc7:=A_ c7;clear c7;obtain ⟨y271,hy271⟩ : ∃ y_ : List Int,y_ = (x4_1 ++ bytesOf t269):=⟨_,rfl⟩
        replace H : (impl_vars.l0 k1 y271 l0 (l0.length : Int) (wrap64 (x11_1 + 1))) = some (r1,r2):=by first|(rw [hy271];with_reducible exact H)|(have H2_:=(Option.bind_some _ _).symm.trans H;rw [hy271];with_reducible exact H2_)|(have H2_:=(Option.bind_some _ _).symm.trans H;with_reducible exact H2_)|with_reducible exact H|(rw [hy271];exact H)|exact H
        have Ny271:=A_ hy271;clear hy271;have H':=A_ H;clear H;have p268 : 0 ≤ (x11_1 : Int):=oda_;have q268 : x11_1 < (l0.length : Int):=oda_;obtain ⟨ad268,e268,hx268_0⟩:=Kd.at_int HR0.out x11_1 p268 q268
        cases e268
        replace hx268_0:=(HB.out.cell (wb_ w _ hx268_0)).trans hx268_0;replace p268:=eq_true p268;replace q268:=eq_true q268
        go_wp2_with (first|((with_reducible refine gate_callee (f:=77) rfl ?_);refine gL_ (some 17) Try.func77 #[.int .i64 (rd l0 x11_1)] ?_;(with_reducible refine (impl_VarText.calls k1 (rd l0 x11_1) t269 true _ A5.out).mono ?_);rintro e w8 ⟨rfl,hb⟩;refine ⟨_,rfl,?_⟩;replace HO_4:=rB_ HO_4 hb;replace HB:=bS_ HB hb;(try clear hb))|(at_builtin;refine print_append_str (w0:=w) w.heap.size rfl (.tmp 22) _ 46 9 5 rfl Try.underlying46 Try.underlying9 info5 u4 x4_1 t269 rfl rfl ?aO ?aB ?aS ?aL ?_;(case aB => exact (bq_ HB));(case aO => exact (Kd.own_of_R (rq_ HO_4)));(case aS => exact (bz_ (bq_ HB)));(case aL => have:=LMc7.out;omega);intro v272 w9 ho0 hb hg;have ho:=Kd.R_of_own (h1:=fun _ => rfl) (ok:=fun _ => True) ho0 (fun _ _ => trivial);clear ho0;have hat:=True.intro;rw [← Ny271.out] at ho;change Kd.R (Kd.int .u8) 5 w9 w.heap.size (fun _ => True) v272 y271 at ho;replace HB:=A_ (hb);have HO273:=A_ (ho);clear HO_4;clear ho hb hg hat))
        go_roundg k1
        case measure => have:=HK1.out;omega
        case rel => exact ⟨(y271),(wrap64 (x11_1 + 1)),(by first|rfl|(simp;done)|(simp [*];done)),H',⟨by have:=HK1.out;omega⟩,⟨by (with_reducible repeat (first|apply ra_|apply rn_|apply Rd_));exact HO273.out⟩,⟨bq_ HB⟩⟩
       ·rw [if_neg c7] at H;exact absurd H (by simp)
      ·replace c6:=Bool.eq_false_iff.mpr c6;subst c6
       have H1 : (some ((⟨#[]⟩ : ByteArray),false)) = some (r1,r2):=by rw [if_neg (show ¬ (false = true) by decide)] at H;exact H
       clear H;have H:=H1;clear H1;simp only [Option.some.injEq,Prod.mk.injEq] at H;obtain ⟨rfl,rfl⟩:=H;have p268 : 0 ≤ (x11_1 : Int):=oda_;have q268 : x11_1 < (l0.length : Int):=oda_;obtain ⟨ad268,e268,hx268_0⟩:=Kd.at_int HR0.out x11_1 p268 q268
       cases e268
       replace hx268_0:=(HB.out.cell (wb_ w _ hx268_0)).trans hx268_0;replace p268:=eq_true p268;replace q268:=eq_true q268
       go_wp2_with (first|((with_reducible refine gate_callee (f:=77) rfl ?_);refine gL_ (some 17) Try.func77 #[.int .i64 (rd l0 x11_1)] ?_;(with_reducible refine (impl_VarText.calls k1 (rd l0 x11_1) t269 false _ A5.out).mono ?_);rintro e w10 ⟨rfl,hb⟩;refine ⟨_,rfl,?_⟩;replace HO_4:=rB_ HO_4 hb;replace HB:=bS_ HB hb;(try clear hb)))
       go_ret2;exact ⟨ex_,bq_ HB⟩
     ·rw [if_neg c4] at H;exact absurd H (by simp)
    ·rw [if_neg c3] at H;exact absurd H (by simp)
   ·rw [if_neg c2] at H;have c2b0 : decide (x11_1 < (l0.length : Int)) = false:=decide_eq_false c2;clear c2;simp only [Option.some.injEq,Prod.mk.injEq] at H;obtain ⟨rfl,rfl⟩:=H;have hcv11:=own_string (P:=Try.prog) Try.underlying46 Try.underlying5 Try.underlying9 (Kd.own_of_R HO_4.out);go_wp2;go_ret2;exact ⟨ex_,bq_ HB⟩
def impl_flag.f (a0 : Bool) : Option (ByteArray) := if a0 = true then (some (⟨#[1]⟩ : ByteArray)) else (some (⟨#[0]⟩ : ByteArray))
set_option maxHeartbeats 8000000 in
set_option maxRecDepth 100000 in
theorem impl_flag.calls (a0 : Bool) (r : ByteArray) (w : World) (h : impl_flag.f a0 = some r) :
  Calls Try.prog 78 #[.bool a0] w fun e w' => e = .returned (.string r) ∧ Drawn0 w w':=by
 unfold impl_flag.f at h;have H:=h;clear h
 by_cases c2 : a0 = true
 ·subst c2
  rw [if_pos rfl] at H;obtain rfl:=Option.some.inj H;go_enter Try.func78,Try.ntmps78;go_wp2;go_ret;exact ⟨by first|rfl|(simp;done)|(simp [*];done),by repeat (first|exact Drawn0.refl _|apply Drawn0.step)⟩
 ·replace c2:=Bool.eq_false_iff.mpr c2;subst c2
  have H1 : (some (⟨#[0]⟩ : ByteArray)) = some r:=by rw [if_neg (show ¬ (false = true) by decide)] at H;exact H
  clear H;have H:=H1;clear H1;obtain rfl:=Option.some.inj H;go_enter Try.func78,Try.ntmps78;go_wp2;go_ret;exact ⟨by first|rfl|(simp;done)|(simp [*];done),by repeat (first|exact Drawn0.refl _|apply Drawn0.step)⟩
def impl_ShortText.f (k : Nat) (a0 : ByteArray) : Option (ByteArray × Bool) := if (a0.size : Int) > 20000 then (some ((⟨#[]⟩ : ByteArray), false)) else ((impl_VarText.f k (a0.size : Int)).bind fun bt274 => (if bt274.1.size + a0.size ≤ 9223372036854775807 then (some (bt274.1 ++ a0, true)) else (none)))
theorem impl_ShortText.mono : ∀ a0 k, LeO (impl_ShortText.f k a0) (impl_ShortText.f (k + 1) a0) := by
 intro a0 k
 unfold impl_ShortText.f
 repeat' first
   | (with_reducible exact impl_VarText.mono _ _)
   | (with_reducible exact LeO.refl _)
   | (with_reducible exact LeO.none _)
   | (with_reducible refine LeO.ite ?_ ?_)
   | (with_reducible refine LeO.bind ?_ (fun _ => ?_))
set_option maxHeartbeats 8000000 in
set_option maxRecDepth 100000 in
theorem impl_ShortText.calls (k : Nat) (a0 : ByteArray) (r1 : ByteArray) (r2 : Bool) (w : World) (h : impl_ShortText.f k a0 = some (r1, r2)) :
  Calls Try.prog 80 #[.string a0] w fun e w' => e = .returned (.tuple #[.string r1,.bool r2]) ∧ Below w.heap.size w w':=by
 have HB:=A_ (Below.refl w.heap.size w);unfold impl_ShortText.f at h;have H:=h;clear h
 by_cases c2 : (a0.size : Int) > 20000
 ·rw [if_pos c2] at H;have c2b0 : decide (20000 < (a0.size : Int)) = true:=de_ c2;have c2b1 : decide (20000 < a0.size) = true:=de_ (by omega);clear c2;simp only [Option.some.injEq,Prod.mk.injEq] at H;obtain ⟨rfl,rfl⟩:=H;go_enter Try.func80,Try.ntmps80;go_wp2;go_ret2;exact ⟨ex_,bq_ HB⟩
 ·rw [if_neg c2] at H;have c2b0 : decide (20000 < (a0.size : Int)) = false:=decide_eq_false c2;have c2b1 : decide (20000 < a0.size) = false:=decide_eq_false (by omega);clear c2;replace H:=ob_.mp H;obtain ⟨⟨t274,t275⟩,A30,H⟩:=H;(try dsimp only at H);have A3:=A_ A30;clear A30
  by_cases c4 : t274.size + a0.size ≤ 9223372036854775807
  ·rw [if_pos c4] at H;have c4b0:=eq_true c4;have c4b1 : decide (t274.size + a0.size ≤ 9223372036854775807) = true:=de_ c4
   try have c4b2 : (9223372036854775807 < t274.size + a0.size) = False:=eq_false (Nat.not_lt.2 c4)
   simp only [Option.some.injEq,Prod.mk.injEq] at H;obtain ⟨rfl,rfl⟩:=H;go_enter Try.func80,Try.ntmps80
   go_wp2_with (first|((with_reducible refine gate_callee (f:=77) rfl ?_);refine gL_ (some 12) Try.func77 #[.int .i64 (a0.size : Int)] ?_;(with_reducible refine (impl_VarText.calls k (a0.size : Int) t274 t275 _ A3.out).mono ?_);rintro e w5 ⟨rfl,hb⟩;refine ⟨_,rfl,?_⟩;replace HB:=bS_ HB hb;(try clear hb)))
   go_ret2;exact ⟨ex_,bq_ HB⟩
  ·rw [if_neg c4] at H;exact absurd H (by simp)
def impl_short.f (k : Nat) (a0 : ByteArray) : Option (ByteArray) := (impl_ShortText.f k a0).bind fun bt276 => (some bt276.1)
theorem impl_short.mono : ∀ a0 k, LeO (impl_short.f k a0) (impl_short.f (k + 1) a0) := by
 intro a0 k
 unfold impl_short.f
 repeat' first
   | (with_reducible exact impl_ShortText.mono _ _)
   | (with_reducible exact LeO.refl _)
   | (with_reducible exact LeO.none _)
   | (with_reducible refine LeO.ite ?_ ?_)
   | (with_reducible refine LeO.bind ?_ (fun _ => ?_))
set_option maxHeartbeats 8000000 in
set_option maxRecDepth 100000 in
theorem impl_short.calls (k : Nat) (a0 : ByteArray) (r : ByteArray) (w : World) (h : impl_short.f k a0 = some r) :
  Calls Try.prog 106 #[.string a0] w fun e w' => e = .returned (.string r) ∧ Below w.heap.size w w':=by
 have HB:=A_ (Below.refl w.heap.size w);unfold impl_short.f at h;have H:=h;clear h;replace H:=ob_.mp H;obtain ⟨⟨t276,t277⟩,A20,H⟩:=H;(try dsimp only at H);have A2:=A_ A20;clear A20;obtain rfl:=Option.some.inj H;go_enter Try.func106,Try.ntmps106
 go_wp2_with (first|((with_reducible refine gate_callee (f:=80) rfl ?_);refine gL_ (some 7) Try.func80 #[.string a0] ?_;(with_reducible refine (impl_ShortText.calls k a0 t276 t277 _ A2.out).mono ?_);rintro e w3 ⟨rfl,hb⟩;refine ⟨_,rfl,?_⟩;replace HB:=bS_ HB hb;(try clear hb)))
 go_ret;exact ⟨ex_,bq_ HB⟩
def impl_keyOk.f (a0 : ByteArray) : Option (Bool) := (impl_within.f (a0.size : Int) 1 10).bind fun t278 => (some t278)
set_option maxHeartbeats 8000000 in
set_option maxRecDepth 100000 in
theorem impl_keyOk.calls (a0 : ByteArray) (r : Bool) (w : World) (h : impl_keyOk.f a0 = some r) :
  Calls Try.prog 139 #[.string a0] w fun e w' => e = .returned (.bool r) ∧ Drawn0 w w':=by
 unfold impl_keyOk.f at h;have H:=h;clear h;replace H:=ob_.mp H;obtain ⟨t278,A20,H⟩:=H;(try dsimp only at H);have A2:=A_ A20;clear A20;obtain rfl:=Option.some.inj H;go_enter Try.func139,Try.ntmps139
 go_wp2_with (first|((with_reducible refine gate_callee (f:=47) rfl ?_);refine gL_ (some 5) Try.func47 #[.int .i64 (a0.size : Int),.int .i64 1,.int .i64 10] ?_;(with_reducible refine (impl_within.calls (a0.size : Int) 1 10 t278 _ A2.out).mono ?_);rintro e w' ⟨rfl,⟨nd,rfl⟩⟩;refine ⟨_,rfl,?_⟩))
 go_ret;exact ⟨by first|rfl|(simp;done)|(simp [*];done),by repeat (first|exact Drawn0.refl _|apply Drawn0.step)⟩
end Go.Proofs.Ytbcgnncbiblibaa.PFnExactScanSeg
