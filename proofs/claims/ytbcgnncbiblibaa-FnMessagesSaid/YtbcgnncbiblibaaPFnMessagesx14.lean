/- The contracts of Go functions that this law reaches: what each call returns, by a plain Lean function of its arguments, under the conditions that each names. By the kit's print.py, run by this repo's wip/gen/pp.py: not to the letter what print.sh prints. -/
import Derived.Test.YtbcgnncbiblibaaPFnMessagesx0
import Derived.Test.YtbcgnncbiblibaaPFnMessagesx12
namespace Go.Proofs.Ytbcgnncbiblibaa.PFnMessages
open Go.RowKit Go.Proofs.YtbcgnncbiblibaaW.PrintWords Go.Proofs.YtbcgnncbiblibaaW.PrintLast Go.Proofs.YtbcgnncbiblibaaW.PrintMore
attribute [local go_sem] max2_int min2_int max_two min_two max_three min_three max_four min_four
set_option linter.unusedVariables false
set_option linter.unusedSimpArgs false
def impl_VarText.l0 : Nat → Int → List Int → Option (ByteArray × Bool)
 | 0,_,_ => none
 | k + 1,x0,x4 => if x0 > 127 then (if x4.length < 140737488355328 then (impl_VarText.l0 k (wrap64 (Int.tdiv x0 128)) (x4 ++ [(wrap64 ((Int.tmod x0 128) + 128)) % 256])) else (none)) else (if x4.length < 140737488355328 then (some (strOfNums (x4 ++ [(x0) % 256]),true)) else (none))
def impl_VarText.f (k : Nat) (a0 : Int) : Option (ByteArray × Bool) := (impl_within.f a0 0 1000000000).bind fun t316 => (if t316 = true then (impl_VarText.l0 k a0 ([] : List Int)) else (some ((⟨#[]⟩ : ByteArray), false)))
theorem impl_VarText.mono_l : ∀ k, (∀ y0 y1, LeO (impl_VarText.l0 k y0 y1) (impl_VarText.l0 (k + 1) y0 y1))
 | 0 => fun _ _ r h => by simp [impl_VarText.l0] at h
 | k + 1 => by
  have ih0:=impl_VarText.mono_l k
  ·intro y0 y1
   unfold impl_VarText.l0
   repeat' first
   | (with_reducible exact ih0 _ _)
   | (with_reducible exact LeO.refl _)
   | (with_reducible refine LeO.ite ?_ ?_)
theorem impl_VarText.mono : ∀ a0 k, LeO (impl_VarText.f k a0) (impl_VarText.f (k + 1) a0) := by
 intro a0 k;have ih0:=impl_VarText.mono_l k
 unfold impl_VarText.f
 repeat' first
   | (with_reducible exact ih0 _ _)
   | (with_reducible exact LeO.refl _)
   | (with_reducible refine LeO.ite ?_ ?_)
   | (with_reducible refine LeO.bind ?_ (fun _ => ?_))
set_option maxHeartbeats 8000000 in
set_option maxRecDepth 100000 in
theorem impl_VarText.calls (k : Nat) (a0 : Int) (r1 : ByteArray) (r2 : Bool) (w : World) (h : impl_VarText.f k a0 = some (r1, r2)) :
  Calls Try.prog 77 #[.int .i64 a0] w fun e w' => e = .returned (.tuple #[.string r1,.bool r2]) ∧ Below w.heap.size w w':=by
 have HB:=A_ (Below.refl w.heap.size w);unfold impl_VarText.f at h;have H:=h;clear h;replace H:=ob_.mp H;obtain ⟨t316,A20,H⟩:=H;have A2:=A_ A20;clear A20;have HC3:=A_ H;clear H;go_enter Try.func77,Try.ntmps77
 go_upto_if 7 with (((with_reducible refine gate_callee (f:=47) rfl ?_);refine gL_ (some 6) Try.func47 #[.int .i64 a0,.int .i64 0,.int .i64 1000000000] ?_;(with_reducible refine (impl_within.calls a0 0 1000000000 t316 _ A2.out).mono ?_);rintro e w' ⟨rfl,⟨nd,rfl⟩⟩;refine ⟨_,rfl,?_⟩))
 have H:=HC3.out;clear HC3
 by_cases c4 : t316 = true;rotate_left
 ·replace c4:=Bool.eq_false_iff.mpr c4;subst c4
  have H1 : (some ((⟨#[]⟩ : ByteArray),false)) = some (r1,r2):=by rw [if_neg (show ¬ (false = true) by decide)] at H;exact H
  clear H;have H:=H1;clear H1;simp only [Option.some.injEq,Prod.mk.injEq] at H;obtain ⟨rfl,rfl⟩:=H;go_wp2;go_ret2;exact ⟨ex_,bq_ HB⟩
 subst c4
 rw [if_pos rfl] at H;have H':=A_ H;clear H;go_wp2
 go_loopg [0,4] k (fun kq v0 v4 w' => ∃ (x0_1 : Int) (x4_1 : List Int),v0 = .int .i64 x0_1 ∧ Aside0 (impl_VarText.l0 kq x0_1 x4_1 = some (r1,r2)) ∧ Aside0 (kq ≤ k) ∧ Aside0 (Kd.R (Kd.int .u8) 5 w' w.heap.size (fun _ => True) v4 x4_1) ∧ Aside0 (Below w.heap.size w w'))
 case atStart => exact ⟨(a0),(([] : List Int)),(by rfl),H',⟨Nat.le_refl _⟩,⟨by exact Kd.R_nil _ _ _ _ _⟩,⟨bq_ HB⟩⟩
 case round =>
  clear H'
  (try clear p2);(try clear c4)
  obtain ⟨x0_1,x4_1,rfl,HA,HK1,HO_4,HB⟩:=hrel
  cases gk with
  | zero => exact absurd HA.out (by simp [impl_VarText.l0])
  | succ k1 =>
   have H:=HA.out;clear HA;simp only [impl_VarText.l0] at H
   by_cases c5 : x0_1 > 127
   ·rw [if_pos c5] at H;have c5b0:=de_ c5;clear c5
    (skip)
    by_cases c6 : x4_1.length < 140737488355328
    ·rw [if_pos c6] at H;have LMc6:=A_ c6;clear c6;obtain ⟨y317,hy317⟩ : ∃ y_ : List Int,y_ = (x4_1 ++ [(wrap64 ((Int.tmod x0_1 128) + 128)) % 256]):=⟨_,rfl⟩
     replace H : (impl_VarText.l0 k1 (wrap64 (Int.tdiv x0_1 128)) y317) = some (r1,r2):=by (rw [hy317];with_reducible exact H)
     have Ny317:=A_ hy317;clear hy317;have H':=A_ H;clear H
     go_wp2_with (((with_reducible refine gate_builtin (b:=.append) (xs:=#[.tmp 10,.tmp 15]) rfl ?_);at_builtin;refine Kd.R_append (Kd.int .u8) (w0:=w) w.heap.size rfl (.tmp 10) (.tmp 15) 46 5 (.int .u8 0) 1 rfl Try.underlying46 info5 rfl (by decide) (by omega) u4 x4_1 ((wrap64 ((Int.tmod x0_1 128) + 128)) % 256) [.int .u8 ((wrap64 ((Int.tmod x0_1 128) + 128)) % 256)] (fun _ => True) (fun _ => False) rfl rfl ?aP (fun _ hk => hk.elim) ?aF ?aO ?aB ?aS ?aL ?_;(case aP => exact rfl);(case aB => exact (bq_ HB));(case aF => exact (fun _ _ => trivial));(case aO => exact (rq_ HO_4));(case aS => exact (bz_ (bq_ HB)));(case aL => have:=LMc6.out;omega);intro v318 w7 ho hb hg hat;rw [← Ny317.out] at ho;replace HB:=A_ hb;have HO319:=A_ ho;clear HO_4;clear ho hb hg hat))
     go_roundg k1
     case measure => have:=HK1.out;omega
     case rel => exact ⟨(wrap64 (Int.tdiv x0_1 128)),(y317),(by rfl),H',⟨by have:=HK1.out;omega⟩,⟨HO319.out⟩,⟨bq_ HB⟩⟩
    rw [if_neg c6] at H;exact absurd H (by simp)
   rw [if_neg c5] at H;have c5b0:=decide_eq_false c5;clear c5
   (skip)
   by_cases c8 : x4_1.length < 140737488355328
   ·rw [if_pos c8] at H;have LMc8:=A_ c8;clear c8;obtain ⟨y320,hy320⟩ : ∃ y_ : List Int,y_ = (x4_1 ++ [(x0_1) % 256]):=⟨_,rfl⟩
    replace H : (some (strOfNums y320,true)) = some (r1,r2):=by (rw [hy320];with_reducible exact H)
    have Ny320:=A_ hy320;clear hy320;simp only [Option.some.injEq,Prod.mk.injEq] at H;obtain ⟨rfl,rfl⟩:=H
    go_wp2_with (((with_reducible refine gate_builtin (b:=.append) (xs:=#[.tmp 19,.tmp 22]) rfl ?_);at_builtin;refine Kd.R_append (Kd.int .u8) (w0:=w) w.heap.size rfl (.tmp 19) (.tmp 22) 46 5 (.int .u8 0) 1 rfl Try.underlying46 info5 rfl (by decide) (by omega) u4 x4_1 ((x0_1) % 256) [.int .u8 ((x0_1) % 256)] (fun _ => True) (fun _ => False) rfl rfl ?aP (fun _ hk => hk.elim) ?aF ?aO ?aB ?aS ?aL ?_;(case aP => exact rfl);(case aB => exact (bq_ HB));(case aF => exact (fun _ _ => trivial));(case aO => exact (rq_ HO_4));(case aS => exact (bz_ (bq_ HB)));(case aL => have:=LMc8.out;omega);intro v321 w9 ho hb hg hat;rw [← Ny320.out] at ho;replace HB:=A_ hb;have HO322:=A_ ho;clear HO_4;clear ho hb hg hat;have hcv10:=own_string (P:=Try.prog) Try.underlying46 Try.underlying5 Try.underlying9 (Kd.own_of_R HO322.out)))
    go_ret2;exact ⟨ex_,bq_ HB⟩
   rw [if_neg c8] at H;exact absurd H (by simp)
def impl_vars.l0 : Nat → List Int → List Int → Int → Int → Option (ByteArray × Bool)
 | 0,_,_,_,_ => none
 | k + 1,x4,x9,x10,x11 => if x11 < x10 then (if 0 ≤ x11 then (if x11 < (x9.length : Int) then ((impl_VarText.f k (rd x9 x11)).bind fun bt324 => (if bt324.2 = true then (if x4.length + bt324.1.size < 140737488355328 then (impl_vars.l0 k (x4 ++ bytesOf bt324.1) x9 x10 (wrap64 (x11 + 1))) else (none)) else (some ((⟨#[]⟩ : ByteArray),false)))) else (none)) else (none)) else (some (strOfNums x4,true))
def impl_vars.f (k : Nat) (l0 : List Int) : Option (ByteArray × Bool) := impl_vars.l0 k ([] : List Int) l0 (l0.length : Int) 0
theorem impl_vars.mono_l : ∀ k, (∀ y0 y1 y2 y3, LeO (impl_vars.l0 k y0 y1 y2 y3) (impl_vars.l0 (k + 1) y0 y1 y2 y3))
 | 0 => fun _ _ _ _ r h => by simp [impl_vars.l0] at h
 | k + 1 => by
  have ih0:=impl_vars.mono_l k
  ·intro y0 y1 y2 y3
   unfold impl_vars.l0
   repeat' first
   | (with_reducible exact ih0 _ _ _ _)
   | (with_reducible exact impl_VarText.mono _ _)
   | (with_reducible exact LeO.refl _)
   | (with_reducible refine LeO.ite ?_ ?_)
   | (with_reducible refine LeO.bind ?_ (fun _ => ?_))
theorem impl_vars.mono : ∀ a0 k, LeO (impl_vars.f k a0) (impl_vars.f (k + 1) a0) := by
 intro a0 k;have ih0:=impl_vars.mono_l k
 unfold impl_vars.f
 repeat' first
   | (with_reducible exact ih0 _ _ _ _)
set_option maxHeartbeats 8000000 in
set_option maxRecDepth 100000 in
theorem impl_vars.calls (k : Nat) (A0 : Option Addr) (c0 : Nat) (l0 : List Int) (r1 : ByteArray) (r2 : Bool) (w : World) (hr0 : Kd.C (Kd.int .i64) w A0 l0.length l0) (hc0 : l0.length ≤ c0) (h : impl_vars.f k l0 = some (r1, r2)) :
  Calls Try.prog 76 #[.slice A0 l0.length c0] w fun e w' => e = .returned (.tuple #[.string r1,.bool r2]) ∧ Below w.heap.size w w':=by
 have HR0:=A_ hr0;have HC0:=A_ hc0;clear hr0 hc0;have HB:=A_ (Below.refl w.heap.size w);unfold impl_vars.f at h;have H:=h;clear h;have H':=A_ H;clear H;go_enter Try.func76,Try.ntmps76;go_wp2
 go_loopg [4,11] k (fun kq v4 v11 w' => ∃ (x4_1 : List Int) (x11_1 : Int),v11 = .int .i64 x11_1 ∧ Aside0 (impl_vars.l0 kq x4_1 l0 (l0.length : Int) x11_1 = some (r1,r2)) ∧ Aside0 (kq ≤ k) ∧ Aside0 (Kd.R (Kd.int .u8) 5 w' w.heap.size (fun _ => True) v4 x4_1) ∧ Aside0 (Below w.heap.size w w'))
 case atStart => exact ⟨(([] : List Int)),(0),(by rfl),H',⟨Nat.le_refl _⟩,⟨by exact Kd.R_nil _ _ _ _ _⟩,⟨bq_ HB⟩⟩
 case round =>
  clear H';obtain ⟨x4_1,x11_1,rfl,HA,HK1,HO_4,HB⟩:=hrel
  cases gk with
  | zero => exact absurd HA.out (by simp [impl_vars.l0])
  | succ k1 =>
   have H:=HA.out;clear HA;simp only [impl_vars.l0] at H
   by_cases c2 : x11_1 < (l0.length : Int);rotate_left
   ·rw [if_neg c2] at H;have c2b0:=decide_eq_false c2;clear c2;simp only [Option.some.injEq,Prod.mk.injEq] at H;obtain ⟨rfl,rfl⟩:=H;have hcv11:=own_string (P:=Try.prog) Try.underlying46 Try.underlying5 Try.underlying9 (Kd.own_of_R HO_4.out);go_wp2;go_ret2;exact ⟨ex_,bq_ HB⟩
   rw [if_pos c2] at H;have c2b0:=de_ c2;clear c2
   by_cases c3 : 0 ≤ x11_1;rotate_left
   ·rw [if_neg c3] at H;exact absurd H (by simp)
   rw [if_pos c3] at H;have c3b0:=de_ c3;clear c3
   by_cases c4 : x11_1 < (l0.length : Int);rotate_left
   ·rw [if_neg c4] at H;exact absurd H (by simp)
   rw [if_pos c4] at H;have c4b0:=de_ c4;clear c4;obtain ⟨⟨t324,t325⟩,A5,H⟩:=oB_ H;(try dsimp only at H);have HC6:=A_ H;clear H;have p323 : 0 ≤ (x11_1 : Int):=oda_;have q323 : x11_1 < (l0.length : Int):=oda_;obtain ⟨ad323,e323,hx323_0⟩:=Kd.at_int HR0.out x11_1 p323 q323
   cases e323
   replace hx323_0:=(HB.out.cell (wb_ w _ hx323_0)).trans hx323_0;replace p323:=eq_true p323;replace q323:=eq_true q323
   go_upto_if 21 with (((with_reducible refine gate_callee (f:=77) rfl ?_);refine gL_ (some 17) Try.func77 #[.int .i64 (rd l0 x11_1)] ?_;(with_reducible refine (impl_VarText.calls k1 (rd l0 x11_1) t324 t325 _ A5.out).mono ?_);rintro e w7 ⟨rfl,hb⟩;refine ⟨_,rfl,?_⟩;replace HO_4:=rB_ HO_4 hb;replace HB:=bS_ HB hb;(try clear hb)))
   have H:=HC6.out;clear HC6
   by_cases c8 : t325 = true
   ·subst c8
    rw [if_pos rfl] at H
    by_cases c9 : x4_1.length + t324.size < 140737488355328
    ·rw [if_pos c9] at H;have LMc9:=A_ c9;clear c9;obtain ⟨y326,hy326⟩ : ∃ y_ : List Int,y_ = (x4_1 ++ bytesOf t324):=⟨_,rfl⟩
     replace H : (impl_vars.l0 k1 y326 l0 (l0.length : Int) (wrap64 (x11_1 + 1))) = some (r1,r2):=by (rw [hy326];with_reducible exact H)
     have Ny326:=A_ hy326;clear hy326;have H':=A_ H;clear H
     go_wp2_with ((at_builtin;refine print_append_str (w0:=w) w.heap.size rfl (.tmp 22) _ 46 9 5 rfl Try.underlying46 Try.underlying9 info5 u4 x4_1 t324 rfl rfl ?aO ?aB ?aS ?aL ?_;(case aB => exact (bq_ HB));(case aO => exact (Kd.own_of_R (rq_ HO_4)));(case aS => exact (bz_ (bq_ HB)));(case aL => have:=LMc9.out;omega);intro v327 w10 ho0 hb hg;have ho:=Kd.R_of_own (h1:=fun _ => rfl) (ok:=fun _ => True) ho0 (fun _ _ => trivial);clear ho0;have hat:=True.intro;rw [← Ny326.out] at ho;change Kd.R (Kd.int .u8) 5 w10 w.heap.size (fun _ => True) v327 y326 at ho;replace HB:=A_ hb;have HO328:=A_ ho;clear HO_4;clear ho hb hg hat))
     go_roundg k1
     case measure => have:=HK1.out;omega
     case rel => exact ⟨(y326),(wrap64 (x11_1 + 1)),(by rfl),H',⟨by have:=HK1.out;omega⟩,⟨HO328.out⟩,⟨bq_ HB⟩⟩
    rw [if_neg c9] at H;exact absurd H (by simp)
   replace c8:=Bool.eq_false_iff.mpr c8;subst c8
   have H1 : (some ((⟨#[]⟩ : ByteArray),false)) = some (r1,r2):=by rw [if_neg (show ¬ (false = true) by decide)] at H;exact H
   clear H;have H:=H1;clear H1;simp only [Option.some.injEq,Prod.mk.injEq] at H;obtain ⟨rfl,rfl⟩:=H;go_wp2;go_ret2;exact ⟨ex_,bq_ HB⟩
def impl_flag.f (a0 : Bool) : Option (ByteArray) := if a0 = true then (some (⟨#[1]⟩ : ByteArray)) else (some (⟨#[0]⟩ : ByteArray))
set_option maxHeartbeats 8000000 in
set_option maxRecDepth 100000 in
theorem impl_flag.calls (a0 : Bool) (r : ByteArray) (w : World) (h : impl_flag.f a0 = some r) :
  Calls Try.prog 78 #[.bool a0] w fun e w' => e = .returned (.string r) ∧ Drawn0 w w':=by
 unfold impl_flag.f at h;have H:=h;clear h
 by_cases c2 : a0 = true
 ·subst c2
  rw [if_pos rfl] at H;obtain rfl:=Option.some.inj H;go_enter Try.func78,Try.ntmps78;go_wp2;go_ret;exact ⟨by rfl,by repeat (exact Drawn0.refl _)⟩
 replace c2:=Bool.eq_false_iff.mpr c2;subst c2
 have H1 : (some (⟨#[0]⟩ : ByteArray)) = some r:=by rw [if_neg (show ¬ (false = true) by decide)] at H;exact H
 clear H;have H:=H1;clear H1;obtain rfl:=Option.some.inj H;go_enter Try.func78,Try.ntmps78;go_wp2;go_ret;exact ⟨by rfl,by repeat (exact Drawn0.refl _)⟩
def impl_EntryText.f (k : Nat) (a0 a1_0 a1_1 : Int) (a1_2 : ByteArray) : Option (ByteArray × Bool) := (impl_EntryOk.f k a1_0 a1_1 a1_2).bind fun t330 => (if t330 = true then ((impl_within.f a0 1 100000).bind fun t331 => (if t331 = true then ((impl_vars.f k (([a0, a1_0] : List Int))).bind fun bt335 => (if 1 + bt335.1.size ≤ 9223372036854775807 then ((some (([(a1_1) % 256] : List Int) : List Int)).bind fun y337 => (if ((⟨#[69]⟩ : ByteArray) ++ bt335.1).size + (strOfNums y337).size ≤ 9223372036854775807 then (if (((⟨#[69]⟩ : ByteArray) ++ bt335.1) ++ (strOfNums y337)).size + a1_2.size ≤ 9223372036854775807 then (some ((((⟨#[69]⟩ : ByteArray) ++ bt335.1) ++ (strOfNums y337)) ++ a1_2, true)) else (none)) else (none))) else (none))) else (some ((⟨#[]⟩ : ByteArray), false)))) else (some ((⟨#[]⟩ : ByteArray), false)))
theorem impl_EntryText.mono : ∀ a0 a1 a2 a3 k, LeO (impl_EntryText.f k a0 a1 a2 a3) (impl_EntryText.f (k + 1) a0 a1 a2 a3) := by
 intro a0 a1 a2 a3 k
 unfold impl_EntryText.f
 repeat' first
   | (with_reducible exact impl_EntryOk.mono _ _ _ _)
   | (with_reducible exact impl_vars.mono _ _)
   | (with_reducible exact LeO.refl _)
   | (with_reducible refine LeO.ite ?_ ?_)
   | (with_reducible refine LeO.bind ?_ (fun _ => ?_))
set_option maxHeartbeats 8000000 in
set_option maxRecDepth 100000 in
theorem impl_EntryText.calls (k : Nat) (a0 a1_0 a1_1 : Int) (a1_2 r1 : ByteArray) (r2 : Bool) (w : World) (h : impl_EntryText.f k a0 a1_0 a1_1 a1_2 = some (r1, r2)) :
  Calls Try.prog 79 #[.int .i64 a0,.agg #[.int .i64 a1_0,.int .i64 a1_1,.string a1_2]] w fun e w' => e = .returned (.tuple #[.string r1,.bool r2]) ∧ Below w.heap.size w w':=by
 have hu69:=Try.underlying69;have HB:=A_ (Below.refl w.heap.size w);unfold impl_EntryText.f at h;have H:=h;clear h;replace H:=ob_.mp H;obtain ⟨t330,A30,H⟩:=H;have A3:=A_ A30;clear A30
 by_cases c4 : t330 = true;rotate_left
 ·replace c4:=Bool.eq_false_iff.mpr c4;subst c4
  have H1 : (some ((⟨#[]⟩ : ByteArray),false)) = some (r1,r2):=by rw [if_neg (show ¬ (false = true) by decide)] at H;exact H
  clear H;have H:=H1;clear H1;simp only [Option.some.injEq,Prod.mk.injEq] at H;obtain ⟨rfl,rfl⟩:=H;go_enter Try.func79,Try.ntmps79
  go_wp2_with (first|((with_reducible refine gate_dst (N:=3) rfl ?_);refine bE_ 3 #[.int .i64 a1_0,.int .i64 a1_1,.string a1_2] 69 ?_;intro gb329 hg w25 hbox hb;have n0_:=bS_ HB hb;have n1_:=A_ hbox;have n3_:=gE_ hg HB;clear HB;have HB:=n0_;have BK329:=n1_;have GE329:=n3_;clear n0_ n1_ n3_;clear hb hbox hg;obtain ⟨hcz26_0,hcz26_1,hcz26_2,hfz26_0,hfz26_1,hfz26_2⟩:=k3f_ BK329)|((with_reducible refine gate_callee (f:=100) rfl ?_);refine gL_ (some 9) Try.func100 #[.agg #[.int .i64 a1_0,.int .i64 a1_1,.string a1_2]] ?_;(with_reducible refine (impl_EntryOk.calls k a1_0 a1_1 a1_2 false _ A3.out).mono ?_);rintro e w27 ⟨rfl,hb⟩;refine ⟨_,rfl,?_⟩;have n1_:=bS_ HB hb;clear BK329;clear HB;have HB:=n1_;clear n1_;(try clear hb)))
  go_ret2;exact ⟨ex_,bq_ HB⟩
 subst c4
 rw [if_pos rfl] at H;replace H:=ob_.mp H;obtain ⟨t331,A50,H⟩:=H;have A5:=A_ A50;clear A50;have HC6:=A_ H;clear H;go_enter Try.func79,Try.ntmps79
 go_upto_if 15 with (first|((with_reducible refine gate_dst (N:=3) rfl ?_);refine bE_ 3 #[.int .i64 a1_0,.int .i64 a1_1,.string a1_2] 69 ?_;intro gb329 hg w7 hbox hb;have n0_:=bS_ HB hb;have n1_:=A_ hbox;have n3_:=gE_ hg HB;clear HB;have HB:=n0_;have BK329:=n1_;have GE329:=n3_;clear n0_ n1_ n3_;clear hb hbox hg;obtain ⟨hcz8_0,hcz8_1,hcz8_2,hfz8_0,hfz8_1,hfz8_2⟩:=k3f_ BK329)|((with_reducible refine gate_callee (f:=100) rfl ?_);refine gL_ (some 9) Try.func100 #[.agg #[.int .i64 a1_0,.int .i64 a1_1,.string a1_2]] ?_;(with_reducible refine (impl_EntryOk.calls k a1_0 a1_1 a1_2 true _ A3.out).mono ?_);rintro e w9 ⟨rfl,hb⟩;refine ⟨_,rfl,?_⟩;replace BK329:=kB_ BK329 hb;replace HB:=bS_ HB hb;(try clear hb))|(go_at_call 47;(with_reducible refine (impl_within.calls a0 1 100000 t331 _ A5.out).mono ?_);rintro e w' ⟨rfl,⟨nd,rfl⟩⟩))
 have H:=HC6.out;clear HC6
 by_cases c10 : t331 = true;rotate_left
 ·replace c10:=Bool.eq_false_iff.mpr c10;subst c10
  have H1 : (some ((⟨#[]⟩ : ByteArray),false)) = some (r1,r2):=by rw [if_neg (show ¬ (false = true) by decide)] at H;exact H
  clear H;have H:=H1;clear H1;simp only [Option.some.injEq,Prod.mk.injEq] at H;obtain ⟨rfl,rfl⟩:=H;go_wp2;go_ret2;exact ⟨ex_,bq_ HB⟩
 subst c10
 rw [if_pos rfl] at H;obtain ⟨y332,hy332⟩ : ∃ y_ : List Int,y_ = (([a0,a1_0] : List Int)):=⟨_,rfl⟩
 replace H : ((impl_vars.f k y332).bind fun bt335 => (if 1 + bt335.1.size ≤ 9223372036854775807 then ((some (([(a1_1) % 256] : List Int) : List Int)).bind fun y337 => (if ((⟨#[69]⟩ : ByteArray) ++ bt335.1).size + (strOfNums y337).size ≤ 9223372036854775807 then (if (((⟨#[69]⟩ : ByteArray) ++ bt335.1) ++ (strOfNums y337)).size + a1_2.size ≤ 9223372036854775807 then (some ((((⟨#[69]⟩ : ByteArray) ++ bt335.1) ++ (strOfNums y337)) ++ a1_2,true)) else (none)) else (none))) else (none))) = some (r1,r2):=by (rw [hy332];with_reducible exact H)
 have Ny332:=A_ hy332;clear hy332;obtain ⟨⟨t335,t336⟩,A11,H⟩:=oB_ H;(try dsimp only at H)
 by_cases c12 : 1 + t335.size ≤ 9223372036854775807;rotate_left
 ·rw [if_neg c12] at H;exact absurd H (by simp)
 rw [if_pos c12] at H;have c12b0:=eq_true c12;have c12b1:=de_ c12
 try have c12b2 : (9223372036854775807 < 1 + t335.size) = False:=eq_false (Nat.not_lt.2 c12)
 obtain ⟨y337,hy337⟩ : ∃ y_ : List Int,y_ = (([(a1_1) % 256] : List Int)):=⟨_,rfl⟩
 replace H : (if ((⟨#[69]⟩ : ByteArray) ++ t335).size + (strOfNums y337).size ≤ 9223372036854775807 then (if (((⟨#[69]⟩ : ByteArray) ++ t335) ++ (strOfNums y337)).size + a1_2.size ≤ 9223372036854775807 then (some ((((⟨#[69]⟩ : ByteArray) ++ t335) ++ (strOfNums y337)) ++ a1_2,true)) else (none)) else (none)) = some (r1,r2):=by (have H2_:=(Option.bind_some _ _).symm.trans H;rw [hy337];with_reducible exact H2_)
 have Ny337:=A_ hy337;clear hy337
 by_cases c13 : ((⟨#[69]⟩ : ByteArray) ++ t335).size + (strOfNums y337).size ≤ 9223372036854775807
 ·rw [if_pos c13] at H;have c13b0:=eq_true c13;have c13b1:=de_ c13
  try have c13b2 : (9223372036854775807 < ((⟨#[69]⟩ : ByteArray) ++ t335).size + (strOfNums y337).size) = False:=eq_false (Nat.not_lt.2 c13)
  try have c13b3 : (9223372036854775807 < 1 + t335.size + (strOfNums y337).size) = False:=eq_false (by have h_:=c13;simp only [ByteArray.size_append,show ∀ x_ : UInt8,(⟨#[x_]⟩ : ByteArray).size = 1 from fun _ => rfl] at h_;omega)
  by_cases c14 : (((⟨#[69]⟩ : ByteArray) ++ t335) ++ (strOfNums y337)).size + a1_2.size ≤ 9223372036854775807
  ·rw [if_pos c14] at H;have c14b0:=eq_true c14;have c14b1:=de_ c14
   try have c14b2 : (9223372036854775807 < (((⟨#[69]⟩ : ByteArray) ++ t335) ++ (strOfNums y337)).size + a1_2.size) = False:=eq_false (Nat.not_lt.2 c14)
   try have c14b3 : (9223372036854775807 < 1 + t335.size + (strOfNums y337).size + a1_2.size) = False:=eq_false (by have h_:=c14;simp only [ByteArray.size_append,show ∀ x_ : UInt8,(⟨#[x_]⟩ : ByteArray).size = 1 from fun _ => rfl] at h_;omega)
   simp only [Option.some.injEq,Prod.mk.injEq] at H;obtain ⟨rfl,rfl⟩:=H;obtain ⟨hcz15_0,hcz15_1,hcz15_2,hfz15_0,hfz15_1,hfz15_2⟩:=k3f_ BK329
   go_wp2_with (first|((with_reducible refine gate_dst (N:=20) rfl ?_);refine rX_ (d:=(Kd.int .i64)) (e:=3) (xs:=([a0,a1_0] : List Int)) (inner:=[.int .i64 a0,.int .i64 a1_0]) (ok:=fun _ => True) (okp:=fun _ => True) 20 (Reps.one (show Kd.M (Kd.int .i64) _ _ _ a0 [.int .i64 a0] from rfl) (Reps.one (show Kd.M (Kd.int .i64) _ _ _ a1_0 [.int .i64 a1_0] from rfl) (Reps.none _ _))) ?_;intro v333 w16 ho17 hb hg_ hnew_;clear hg_ hnew_;(rw [← Ny332.out] at ho17);have HO334:=A_ (rw_ ho17 (bz_ (bq_ HB)));replace BK329:=kB_ BK329 hb;replace HB:=bS_ HB hb;clear hb ho17;obtain ⟨Ao18,co18,eo18⟩:=Kd.R_slice HO334.out;subst eo18)|((with_reducible refine gate_callee (f:=76) rfl ?_);refine gL_ (some 21) Try.func76 #[.slice Ao18 y332.length co18] ?_;(with_reducible refine (impl_vars.calls k _ _ y332 t335 t336 _ ?side1 ?side2 A11.out).mono ?_);(case side1 => repeat (exact (Kd.R_reads' HO334.out).2.2));(case side2 => exact (Kd.R_reads' HO334.out).2.1);rintro e w19 ⟨rfl,hb⟩;refine ⟨_,rfl,?_⟩;have n1_:=kB_ BK329 hb;have n2_:=bS_ HB hb;clear HO334;clear BK329;clear HB;have BK329:=n1_;have HB:=n2_;clear n1_ n2_;(try clear hb);obtain ⟨hcz20_0,hcz20_1,hcz20_2,hfz20_0,hfz20_1,hfz20_2⟩:=k3f_ BK329)|((with_reducible refine gate_dst (N:=29) rfl ?_);refine rX_ (d:=(Kd.int .u8)) (e:=5) (xs:=([(a1_1) % 256] : List Int)) (inner:=[.int .u8 ((a1_1) % 256)]) (ok:=fun _ => True) (okp:=fun _ => True) 29 (Reps.one (show Kd.M (Kd.int .u8) _ _ _ ((a1_1) % 256) [.int .u8 ((a1_1) % 256)] from rfl) (Reps.none _ _)) ?_;intro v338 w21 ho22 hb hg_ hnew_;clear hg_ hnew_;(rw [← Ny337.out] at ho22);have n1_:=A_ (rw_ ho22 (bz_ (bq_ HB)));have n2_:=kB_ BK329 hb;have n3_:=bS_ HB hb;clear BK329;clear HB;have HO339:=n1_;have BK329:=n2_;have HB:=n3_;clear n1_ n2_ n3_;clear hb ho22;have hcv23:=own_string (P:=Try.prog) Try.underlying46 Try.underlying5 Try.underlying9 (Kd.own_of_R HO339.out);obtain ⟨hcz24_0,hcz24_1,hcz24_2,hfz24_0,hfz24_1,hfz24_2⟩:=k3f_ BK329))
   go_ret2;exact ⟨ex_,bq_ HB⟩
  rw [if_neg c14] at H;exact absurd H (by simp)
 rw [if_neg c13] at H;exact absurd H (by simp)
def impl_ShortText.f (k : Nat) (a0 : ByteArray) : Option (ByteArray × Bool) := if (a0.size : Int) > 20000 then (some ((⟨#[]⟩ : ByteArray), false)) else ((impl_VarText.f k (a0.size : Int)).bind fun bt340 => (if bt340.1.size + a0.size ≤ 9223372036854775807 then (some (bt340.1 ++ a0, true)) else (none)))
theorem impl_ShortText.mono : ∀ a0 k, LeO (impl_ShortText.f k a0) (impl_ShortText.f (k + 1) a0) := by
 intro a0 k
 unfold impl_ShortText.f
 repeat' first
   | (with_reducible exact impl_VarText.mono _ _)
   | (with_reducible exact LeO.refl _)
   | (with_reducible refine LeO.ite ?_ ?_)
   | (with_reducible refine LeO.bind ?_ (fun _ => ?_))
set_option maxHeartbeats 8000000 in
set_option maxRecDepth 100000 in
theorem impl_ShortText.calls (k : Nat) (a0 r1 : ByteArray) (r2 : Bool) (w : World) (h : impl_ShortText.f k a0 = some (r1, r2)) :
  Calls Try.prog 80 #[.string a0] w fun e w' => e = .returned (.tuple #[.string r1,.bool r2]) ∧ Below w.heap.size w w':=by
 have HB:=A_ (Below.refl w.heap.size w);unfold impl_ShortText.f at h;have H:=h;clear h
 by_cases c2 : (a0.size : Int) > 20000
 ·rw [if_pos c2] at H;have c2b0:=de_ c2;have c2b1 : decide (20000 < a0.size) = true:=de_ (by omega);clear c2;simp only [Option.some.injEq,Prod.mk.injEq] at H;obtain ⟨rfl,rfl⟩:=H;go_enter Try.func80,Try.ntmps80;go_wp2;go_ret2;exact ⟨ex_,bq_ HB⟩
 rw [if_neg c2] at H;have c2b0:=decide_eq_false c2;have c2b1 : decide (20000 < a0.size) = false:=decide_eq_false (by omega);clear c2;obtain ⟨⟨t340,t341⟩,A3,H⟩:=oB_ H;(try dsimp only at H)
 by_cases c4 : t340.size + a0.size ≤ 9223372036854775807
 ·rw [if_pos c4] at H;have c4b0:=eq_true c4;have c4b1:=de_ c4
  try have c4b2 : (9223372036854775807 < t340.size + a0.size) = False:=eq_false (Nat.not_lt.2 c4)
  simp only [Option.some.injEq,Prod.mk.injEq] at H;obtain ⟨rfl,rfl⟩:=H;go_enter Try.func80,Try.ntmps80
  go_wp2_with (((with_reducible refine gate_callee (f:=77) rfl ?_);refine gL_ (some 12) Try.func77 #[.int .i64 (a0.size : Int)] ?_;(with_reducible refine (impl_VarText.calls k (a0.size : Int) t340 t341 _ A3.out).mono ?_);rintro e w5 ⟨rfl,hb⟩;refine ⟨_,rfl,?_⟩;replace HB:=bS_ HB hb;(try clear hb)))
  go_ret2;exact ⟨ex_,bq_ HB⟩
 rw [if_neg c4] at H;exact absurd H (by simp)
end Go.Proofs.Ytbcgnncbiblibaa.PFnMessages
