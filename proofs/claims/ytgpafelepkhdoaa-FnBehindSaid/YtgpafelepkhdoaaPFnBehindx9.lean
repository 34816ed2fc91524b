/- The contracts of the Go functions that this law reaches: what each call returns, by a plain Lean function of its arguments. No conditions but those each contract names. By the kit's print.py, run by this session's wip/gen/pp.py with facts and hand proofs beside it: not to the letter what print.sh prints. -/
import Derived.Test.YtgpafelepkhdoaaPFnBehindx0
import Derived.Test.YtgpafelepkhdoaaPFnBehindx6
import Derived.Test.YtgpafelepkhdoaaPFnBehindx7
namespace Go.Proofs.Ytgpafelepkhdoaa.PFnBehind
open Go.RowKit Go.Proofs.YtgpafelepkhdoaaW.PrintWords Go.Proofs.YtgpafelepkhdoaaW.PrintLast Go.Proofs.YtgpafelepkhdoaaW.PrintMore
attribute [local go_sem] max2_int min2_int max_two min_two max_three min_three max_four min_four
set_option linter.unusedVariables false
set_option linter.unusedSimpArgs false
def spec_EntryText.j0 : Nat → Int → Bool → Int → Int → ByteArray → Option (ByteArray × Bool)
 | 0,_,_,_,_,_ => none
 | k + 1,x0,x13,x203000,x203001,x203002 => if x13 = true then (some ((⟨#[]⟩ : ByteArray),false)) else ((spec_l01Var.f k x0).bind fun t205 => (if 1 + t205.size ≤ 9223372036854775807 then ((spec_l01Var.f k x203000).bind fun t206 => (if ((⟨#[69]⟩ : ByteArray) ++ t205).size + t206.size ≤ 9223372036854775807 then ((some (([(x203001) % 256] : List Int) : List Int)).bind fun y207 => (if (((⟨#[69]⟩ : ByteArray) ++ t205) ++ t206).size + (strOfNums y207).size ≤ 9223372036854775807 then (if ((((⟨#[69]⟩ : ByteArray) ++ t205) ++ t206) ++ (strOfNums y207)).size + x203002.size ≤ 9223372036854775807 then (some (((((⟨#[69]⟩ : ByteArray) ++ t205) ++ t206) ++ (strOfNums y207)) ++ x203002,true)) else (none)) else (none))) else (none))) else (none)))
def spec_EntryText.f (k : Nat) (a0 : Int) (a1_0 : Int) (a1_1 : Int) (a1_2 : ByteArray) : Option (ByteArray × Bool) := (spec_EntryOk.f k a1_0 a1_1 a1_2).bind fun t203 => (if t203 = true then ((spec_l01In.f a0 1 100000).bind fun t204 => (spec_EntryText.j0 k a0 (!t204) a1_0 a1_1 a1_2)) else (spec_EntryText.j0 k a0 true a1_0 a1_1 a1_2))
theorem spec_EntryText.mono_l : ∀ k, (∀ y0 y1 y2 y3 y4, LeO (spec_EntryText.j0 k y0 y1 y2 y3 y4) (spec_EntryText.j0 (k + 1) y0 y1 y2 y3 y4))
 | 0 => fun _ _ _ _ _ r h => by simp [spec_EntryText.j0] at h
 | k + 1 => by
  have ih0:=spec_EntryText.mono_l k
  ·intro y0 y1 y2 y3 y4
   unfold spec_EntryText.j0
   repeat' first
   | (with_reducible exact ih0 _ _ _ _ _)
   | (with_reducible exact spec_EntryOk.mono _ _ _ _)
   | (with_reducible exact spec_l01Var.mono _ _)
   | (with_reducible exact LeO.refl _)
   | (with_reducible exact LeO.none _)
   | (with_reducible refine LeO.ite ?_ ?_)
   | (with_reducible refine LeO.bind ?_ (fun _ => ?_))
theorem spec_EntryText.mono : ∀ a0 a1 a2 a3 k, LeO (spec_EntryText.f k a0 a1 a2 a3) (spec_EntryText.f (k + 1) a0 a1 a2 a3) := by
 intro a0 a1 a2 a3 k;have ih0:=spec_EntryText.mono_l k
 unfold spec_EntryText.f
 repeat' first
   | (with_reducible exact ih0 _ _ _ _ _)
   | (with_reducible exact spec_EntryOk.mono _ _ _ _)
   | (with_reducible exact spec_l01Var.mono _ _)
   | (with_reducible exact LeO.refl _)
   | (with_reducible exact LeO.none _)
   | (with_reducible refine LeO.ite ?_ ?_)
   | (with_reducible refine LeO.bind ?_ (fun _ => ?_))
def spec_EntryText.T3 : Bool × List (List Nat × List Nat) := (true, [([], []), ([0], [0]), ([1], [1]), ([], []), ([3], [3]), ([4, 1], [4]), ([2, 5], [2, 5]), ([], []), ([7], [7]), ([8], [8]), ([9], [9]), ([10], [10]), ([6, 11], [6, 11]), ([], []), ([13], [13]), ([12, 14], [12, 14]), ([15, 5, 0, 1, 2, 3, 4, 5, 6, 7, 8, 9, 10, 11, 12, 13, 14, 15], [15]), ([16, 0, 1, 2, 3, 4, 5, 6, 7, 8, 9, 10, 11, 12, 13, 14, 15, 16], [])])
def spec_EntryText.B3 : List Nat := [0, 1, 3, 0, 8, 27, 63, 0, 128, 384, 896, 1920, 4095, 0, 8192, 32767, 65535, 131071]
theorem spec_EntryText.tab3 : rtab .any (opsOf Try.f55 3) = spec_EntryText.T3 := by kernel_rfl
theorem spec_EntryText.bits3 : waitsOk spec_EntryText.T3.2 spec_EntryText.B3 = true := by kernel_rfl
set_option maxHeartbeats 8000000 in
set_option maxRecDepth 100000 in
theorem spec_EntryText.calls (k : Nat) (a0 : Int) (a1_0 : Int) (a1_1 : Int) (a1_2 : ByteArray) (r1 : ByteArray) (r2 : Bool) (w : World) (h : spec_EntryText.f k a0 a1_0 a1_1 a1_2 = some (r1, r2)) :
  Calls Try.prog 55 #[.int .i64 a0,.agg #[.int .i64 a1_0,.int .i64 a1_1,.string a1_2]] w fun e w' => e = .returned (.tuple #[.string r1,.bool r2]) ∧ Below w.heap.size w w':=by
 have hu37:=Try.underlying37;have HB:=A_ (Below.refl w.heap.size w);have H : ((spec_EntryOk.f k a1_0 a1_1 a1_2).bind fun t203 => (if t203 = true then ((spec_l01In.f a0 1 100000).bind fun t204 => (spec_EntryText.j0 k a0 (!t204) a1_0 a1_1 a1_2)) else (spec_EntryText.j0 k a0 true a1_0 a1_1 a1_2))) = some (r1,r2):=h;clear h;have HC3:=A_ H;clear H;go_enter Try.func55,Try.ntmps55
 go_upto_region 1 with (first|((with_reducible refine gate_dst (N:=3) rfl ?_);refine box_event ?hg (N:=3) ?hd (cs:=#[.int .i64 a1_0,.int .i64 a1_1,.string a1_2]) (t:=37) ?hr ?_;(case hd => rfl);(case hg => rfl);(case hr => exact gx_);intro gb202 hg w4 hbox hb;have BK202:=A_ (hbox);have GW202:=A_ ((by rw [hg];exact (bz_ (bq_ HB)) : w.heap.size ≤ gb202));have GE202:=A_ ((by rw [hg];exact (bz_ (bq_ HB)) : w.heap.size ≤ gb202));replace HB:=A_ (bs_ (bq_ HB) hb);clear hb hbox hg))
 (try simp only [Act.put,s1_,s2_,s3_])
 go_cut [13] (fun v13 wc => ∃ (kq : Nat) (x13_2 : Bool),v13 = .bool x13_2 ∧ Aside0 (spec_EntryText.j0 kq a0 x13_2 a1_0 a1_1 a1_2 = some (r1,r2)) ∧ Aside0 (kq ≤ k) ∧ Aside0 (wc.heap[gb202]? = some (.cells #[.int .i64 a1_0,.int .i64 a1_1,.string a1_2] 37 (0,0))) ∧ Aside0 (Below w.heap.size w wc))
 case first =>
  have H:=HC3.out;clear HC3;replace H:=ob_.mp H;obtain ⟨t203,A50,H⟩:=H;replace H : (if t203 = true then ((spec_l01In.f a0 1 100000).bind fun t204 => (spec_EntryText.j0 k a0 (!t204) a1_0 a1_1 a1_2)) else (spec_EntryText.j0 k a0 true a1_0 a1_1 a1_2)) = some (r1,r2):=H;have A5:=A_ A50;clear A50
  by_cases c6 : t203 = true
  ·subst c6
   have H1 : ((spec_l01In.f a0 1 100000).bind fun t204 => (spec_EntryText.j0 k a0 (!t204) a1_0 a1_1 a1_2)) = some (r1,r2):=by rw [if_pos rfl] at H;exact H
   clear H;have H:=H1;clear H1;replace H:=ob_.mp H;obtain ⟨t204,A70,H⟩:=H;replace H : (spec_EntryText.j0 k a0 (!t204) a1_0 a1_1 a1_2) = some (r1,r2):=H;have A7:=A_ A70;clear A70;have H':=A_ H;clear H;have hcz8_0:=kC_ BK202 0;have hcz8_1:=kC_ BK202 1;have hcz8_2:=kC_ BK202 2;have hfz8_0:=kf_ BK202.out 0;have hfz8_1:=kf_ BK202.out 1;have hfz8_2:=kf_ BK202.out 2
   go_wp2_with (first|((with_reducible refine gate_callee (f:=95) rfl ?_);refine goesL_ (some 7) rfl rfl Try.func95 (by kernel_rfl) rfl #[.agg #[.int .i64 a1_0,.int .i64 a1_1,.string a1_2]] rfl aq_ ?_;(with_reducible refine (spec_EntryOk.calls k a1_0 a1_1 a1_2 true _ A5.out).mono ?_);rintro e w9 ⟨rfl,hb⟩;refine ⟨_,rfl,?_⟩;replace BK202:=A_ (kb_ (kq_ BK202) hb);replace HB:=A_ (bs_ (bq_ HB) hb);(try clear hb);(try clear hb2);(try clear hk);(try clear hi))|(go_at_call 78;(with_reducible refine (spec_l01In.calls a0 1 100000 t204 _ A7.out).mono ?_);rintro e w' ⟨rfl,⟨nd,rfl⟩⟩))
   go_meet
   case rel => exact ⟨_,(!t204),(by first|rfl|(simp;done)|(simp [*];done)),H',⟨by first|omega|exact Nat.le_refl _⟩,⟨kq_ BK202⟩,⟨bq_ HB⟩⟩
  ·replace c6:=Bool.eq_false_iff.mpr c6;subst c6
   have H1 : (spec_EntryText.j0 k a0 true a1_0 a1_1 a1_2) = some (r1,r2):=by rw [if_neg (show ¬ (false = true) by decide)] at H;exact H
   clear H;have H:=H1;clear H1;have H':=A_ H;clear H;have hcz10_0:=kC_ BK202 0;have hcz10_1:=kC_ BK202 1;have hcz10_2:=kC_ BK202 2;have hfz10_0:=kf_ BK202.out 0;have hfz10_1:=kf_ BK202.out 1;have hfz10_2:=kf_ BK202.out 2
   go_wp2_with (first|((with_reducible refine gate_callee (f:=95) rfl ?_);refine goesL_ (some 7) rfl rfl Try.func95 (by kernel_rfl) rfl #[.agg #[.int .i64 a1_0,.int .i64 a1_1,.string a1_2]] rfl aq_ ?_;(with_reducible refine (spec_EntryOk.calls k a1_0 a1_1 a1_2 false _ A5.out).mono ?_);rintro e w11 ⟨rfl,hb⟩;refine ⟨_,rfl,?_⟩;replace BK202:=A_ (kb_ (kq_ BK202) hb);replace HB:=A_ (bs_ (bq_ HB) hb);(try clear hb);(try clear hb2);(try clear hk);(try clear hi)))
   go_meet
   case rel => exact ⟨_,(true),(by first|rfl|(simp;done)|(simp [*];done)),H',⟨by first|omega|exact Nat.le_refl _⟩,⟨kq_ BK202⟩,⟨bq_ HB⟩⟩
 case rest =>
  clear HC3
  try clear p2
  try clear c5
  try clear c6
  try clear c9
  try clear hcz10_0
  try clear hcz10_1
  try clear hcz10_2
  try clear hcz8_0
  try clear hcz8_1
  try clear hcz8_2
  try clear hfz10_0
  try clear hfz10_1
  try clear hfz10_2
  try clear hfz8_0
  try clear hfz8_1
  try clear hfz8_2
  obtain ⟨kq,x13_2,rfl,HA,HJ2,BK202,HB⟩:=hcut
  cases kq with
  | zero => exact absurd HA.out (by simp [spec_EntryText.j0])
  | succ kj2 =>
   have H:=HA.out;clear HA;simp only [spec_EntryText.j0] at H
   by_cases c12 : x13_2 = true
   ·subst c12
    have H1 : (some ((⟨#[]⟩ : ByteArray),false)) = some (r1,r2):=by rw [if_pos rfl] at H;exact H
    clear H;have H:=H1;clear H1;simp only [Option.some.injEq,Prod.mk.injEq] at H;obtain ⟨rfl,rfl⟩:=H;go_wp2;go_ret2;exact ⟨ex_,bq_ HB⟩
   ·replace c12:=Bool.eq_false_iff.mpr c12;subst c12
    have H1 : ((spec_l01Var.f kj2 a0).bind fun t205 => (if 1 + t205.size ≤ 9223372036854775807 then ((spec_l01Var.f kj2 a1_0).bind fun t206 => (if ((⟨#[69]⟩ : ByteArray) ++ t205).size + t206.size ≤ 9223372036854775807 then ((some (([(a1_1) % 256] : List Int) : List Int)).bind fun y207 => (if (((⟨#[69]⟩ : ByteArray) ++ t205) ++ t206).size + (strOfNums y207).size ≤ 9223372036854775807 then (if ((((⟨#[69]⟩ : ByteArray) ++ t205) ++ t206) ++ (strOfNums y207)).size + a1_2.size ≤ 9223372036854775807 then (some (((((⟨#[69]⟩ : ByteArray) ++ t205) ++ t206) ++ (strOfNums y207)) ++ a1_2,true)) else (none)) else (none))) else (none))) else (none))) = some (r1,r2):=by rw [if_neg (show ¬ (false = true) by decide)] at H;exact H
    clear H;have H:=H1;clear H1;replace H:=ob_.mp H;obtain ⟨t205,A130,H⟩:=H;replace H : (if 1 + t205.size ≤ 9223372036854775807 then ((spec_l01Var.f kj2 a1_0).bind fun t206 => (if ((⟨#[69]⟩ : ByteArray) ++ t205).size + t206.size ≤ 9223372036854775807 then ((some (([(a1_1) % 256] : List Int) : List Int)).bind fun y207 => (if (((⟨#[69]⟩ : ByteArray) ++ t205) ++ t206).size + (strOfNums y207).size ≤ 9223372036854775807 then (if ((((⟨#[69]⟩ : ByteArray) ++ t205) ++ t206) ++ (strOfNums y207)).size + a1_2.size ≤ 9223372036854775807 then (some (((((⟨#[69]⟩ : ByteArray) ++ t205) ++ t206) ++ (strOfNums y207)) ++ a1_2,true)) else (none)) else (none))) else (none))) else (none)) = some (r1,r2):=H;have A13:=A_ A130;clear A130
    by_cases c14 : 1 + t205.size ≤ 9223372036854775807
    ·rw [if_pos c14] at H;have c14b0:=eq_true c14;have c14b1 : decide (1 + t205.size ≤ 9223372036854775807) = true:=de_ c14
     try have c14b2 : (9223372036854775807 < 1 + t205.size) = False:=eq_false (Nat.not_lt.2 c14)
     replace H:=ob_.mp H;obtain ⟨t206,A150,H⟩:=H;replace H : (if ((⟨#[69]⟩ : ByteArray) ++ t205).size + t206.size ≤ 9223372036854775807 then ((some (([(a1_1) % 256] : List Int) : List Int)).bind fun y207 => (if (((⟨#[69]⟩ : ByteArray) ++ t205) ++ t206).size + (strOfNums y207).size ≤ 9223372036854775807 then (if ((((⟨#[69]⟩ : ByteArray) ++ t205) ++ t206) ++ (strOfNums y207)).size + a1_2.size ≤ 9223372036854775807 then (some (((((⟨#[69]⟩ : ByteArray) ++ t205) ++ t206) ++ (strOfNums y207)) ++ a1_2,true)) else (none)) else (none))) else (none)) = some (r1,r2):=H;have A15:=A_ A150;clear A150
     by_cases c16 : ((⟨#[69]⟩ : ByteArray) ++ t205).size + t206.size ≤ 9223372036854775807
     ·rw [if_pos c16] at H;have c16b0:=eq_true c16;have c16b1 : decide (((⟨#[69]⟩ : ByteArray) ++ t205).size + t206.size ≤ 9223372036854775807) = true:=de_ c16
      try have c16b2 : (9223372036854775807 < ((⟨#[69]⟩ : ByteArray) ++ t205).size + t206.size) = False:=eq_false (Nat.not_lt.2 c16)
      try have c16b3 : (9223372036854775807 < 1 + t205.size + t206.size) = False:=eq_false (by have h_:=c16;simp only [ByteArray.size_append,show ∀ x_ : UInt8,(⟨#[x_]⟩ : ByteArray).size = 1 from fun _ => rfl] at h_;omega)
      obtain ⟨y207,hy207⟩ : ∃ y_ : List Int,y_ = (([(a1_1) % 256] : List Int)):=⟨_,rfl⟩
      replace H : (if (((⟨#[69]⟩ : ByteArray) ++ t205) ++ t206).size + (strOfNums y207).size ≤ 9223372036854775807 then (if ((((⟨#[69]⟩ : ByteArray) ++ t205) ++ t206) ++ (strOfNums y207)).size + a1_2.size ≤ 9223372036854775807 then (some (((((⟨#[69]⟩ : ByteArray) ++ t205) ++ t206) ++ (strOfNums y207)) ++ a1_2,true)) else (none)) else (none)) = some (r1,r2):=by first|(rw [hy207];with_reducible exact H)|(have H2_:=(Option.bind_some _ _).symm.trans H;rw [hy207];with_reducible exact H2_)|(have H2_:=(Option.bind_some _ _).symm.trans H;with_reducible exact H2_)|with_reducible exact H|(rw [hy207];exact H)|exact H
      have Ny207:=A_ hy207;clear hy207
      by_cases c17 : (((⟨#[69]⟩ : ByteArray) ++ t205) ++ t206).size + (strOfNums y207).size ≤ 9223372036854775807
      ·rw [if_pos c17] at H;have c17b0:=eq_true c17;have c17b1 : decide ((((⟨#[69]⟩ : ByteArray) ++ t205) ++ t206).size + (strOfNums y207).size ≤ 9223372036854775807) = true:=de_ c17
       try have c17b2 : (9223372036854775807 < (((⟨#[69]⟩ : ByteArray) ++ t205) ++ t206).size + (strOfNums y207).size) = False:=eq_false (Nat.not_lt.2 c17)
       try have c17b3 : (9223372036854775807 < 1 + t205.size + t206.size + (strOfNums y207).size) = False:=eq_false (by have h_:=c17;simp only [ByteArray.size_append,show ∀ x_ : UInt8,(⟨#[x_]⟩ : ByteArray).size = 1 from fun _ => rfl] at h_;omega)
       by_cases c18 : ((((⟨#[69]⟩ : ByteArray) ++ t205) ++ t206) ++ (strOfNums y207)).size + a1_2.size ≤ 9223372036854775807
       ·rw [if_pos c18] at H;have c18b0:=eq_true c18;have c18b1 : decide (((((⟨#[69]⟩ : ByteArray) ++ t205) ++ t206) ++ (strOfNums y207)).size + a1_2.size ≤ 9223372036854775807) = true:=de_ c18
        try have c18b2 : (9223372036854775807 < ((((⟨#[69]⟩ : ByteArray) ++ t205) ++ t206) ++ (strOfNums y207)).size + a1_2.size) = False:=eq_false (Nat.not_lt.2 c18)
        try have c18b3 : (9223372036854775807 < 1 + t205.size + t206.size + (strOfNums y207).size + a1_2.size) = False:=eq_false (by have h_:=c18;simp only [ByteArray.size_append,show ∀ x_ : UInt8,(⟨#[x_]⟩ : ByteArray).size = 1 from fun _ => rfl] at h_;omega)
        simp only [Option.some.injEq,Prod.mk.injEq] at H;obtain ⟨rfl,rfl⟩:=H
        try go_wp2
        replace BK202:=A_ (kd_ BK202.out);replace HB:=A_ (pd_ HB.out);refine start_ (n:=18) (S:=fun w' => w'.cell? ⟨gb202,0,none⟩ = some (.int .i64 a1_0) ∧ w'.cell? ⟨gb202,1,none⟩ = some (.int .i64 a1_1) ∧ w'.cell? ⟨gb202,2,none⟩ = some (.string a1_2)) (ds:=[]) #[false,false,false,false,false,false,false,false,false,false,false,false,false,false,false,false,false,false] (by kernel_rfl) rfl rfl ⟨kC_ BK202 0,kC_ BK202 1,kC_ BK202 2⟩ (fun hHeld => ?_);refine with_tabW spec_EntryText.tab3 spec_EntryText.bits3 (fun HT_ HW_ => ?_);generalize wc.drew = w19 at BK202 HB hHeld ⊢;refine pure_ (i:=0) (N:=some 14) (v:=?_) (a':=?_) #[true,false,false,false,false,false,false,false,false,false,false,false,false,false,false,false,false,false] rfl rfl (any_of HT_.out (by kernel_rfl)) (fun _ _ _ h => h) (Or.inl ⟨by rfl,?_⟩) ?_ ?_;rotate_left
        ·intro w';go_simp;with_reducible rfl
        rotate_left
        ·exact ux_
        refine pure_ (i:=3) (N:=some 17) (v:=?_) (a':=?_) #[true,false,false,true,false,false,false,false,false,false,false,false,false,false,false,false,false,false] rfl rfl (any_of HT_.out (by kernel_rfl)) (fun _ _ _ h => h) (Or.inl ⟨by rfl,?_⟩) ?_ ?_;rotate_left
        ·intro w';go_simp;with_reducible rfl
        rotate_left
        ·exact ux_
        refine pure_ (i:=7) (N:=some 21) (v:=?_) (a':=?_) #[true,false,false,true,false,false,false,true,false,false,false,false,false,false,false,false,false,false] rfl rfl (any_of HT_.out (by kernel_rfl)) (fun _ _ _ h => h) (Or.inl ⟨by rfl,?_⟩) ?_ ?_;rotate_left
        ·intro w';go_simp;with_reducible rfl
        rotate_left
        ·exact ux_
        refine pure_ (i:=13) (N:=some 27) (v:=?_) (a':=?_) #[true,false,false,true,false,false,false,true,false,false,false,false,false,true,false,false,false,false] rfl rfl (any_of HT_.out (by kernel_rfl)) (fun _ _ _ h => h) (Or.inl ⟨by rfl,?_⟩) ?_ ?_;rotate_left
        ·intro w';go_simp;with_reducible rfl
        rotate_left
        ·exact ux_
        refine take_ (i:=4) (N:=some 18) (v:=?_) (a':=?_) #[true,false,false,true,true,false,false,true,false,false,false,false,false,true,false,false,false,false] rfl rfl (take_ofW HT_.out HW_.out (by kernel_rfl)) (fun _ _ _ h => h) (Or.inl ⟨by rfl,?_⟩) hHeld ?_ ?_;rotate_left
        ·rintro w' ⟨s0,s1,s2⟩;go_simp;with_reducible rfl
        rotate_left
        ·exact ux_
        refine take_ (i:=8) (N:=some 22) (v:=?_) (a':=?_) #[true,false,false,true,true,false,false,true,true,false,false,false,false,true,false,false,false,false] rfl rfl (take_ofW HT_.out HW_.out (by kernel_rfl)) (fun _ _ _ h => h) (Or.inl ⟨by rfl,?_⟩) hHeld ?_ ?_;rotate_left
        ·rintro w' ⟨s0,s1,s2⟩;go_simp;with_reducible rfl
        rotate_left
        ·exact ux_
        refine pure_ (i:=9) (N:=some 23) (v:=?_) (a':=?_) #[true,false,false,true,true,false,false,true,true,true,false,false,false,true,false,false,false,false] rfl rfl (any_of HT_.out (by kernel_rfl)) (fun _ _ _ h => h) (Or.inl ⟨by rfl,?_⟩) ?_ ?_;rotate_left
        ·intro w';go_simp;with_reducible rfl
        rotate_left
        ·exact ux_
        refine take_ (i:=14) (N:=some 28) (v:=?_) (a':=?_) #[true,false,false,true,true,false,false,true,true,true,false,false,false,true,true,false,false,false] rfl rfl (take_ofW HT_.out HW_.out (by kernel_rfl)) (fun _ _ _ h => h) (Or.inl ⟨by rfl,?_⟩) hHeld ?_ ?_;rotate_left
        ·rintro w' ⟨s0,s1,s2⟩;go_simp;with_reducible rfl
        rotate_left
        ·exact ux_
        refine join_ (σ:=Value) 4 #[true,true,true,true,true,true,true,true,true,true,true,true,false,true,true,false,false,false] (fun s_ => [(15,.string t205),(19,.string t206),(24,s_),(25,.string (strOfNums y207)),(16,.string ((⟨#[69]⟩ : ByteArray) ++ t205)),(20,.string (((⟨#[69]⟩ : ByteArray) ++ t205) ++ t206))]) (fun s_ w' => (w'.cell? ⟨gb202,0,none⟩ = some (.int .i64 a1_0) ∧ w'.cell? ⟨gb202,1,none⟩ = some (.int .i64 a1_1) ∧ w'.cell? ⟨gb202,2,none⟩ = some (.string a1_2)) ∧ (Kd.R (Kd.int .u8) 5 w' w.heap.size (fun _ => True) s_ y207) ∧ (w'.heap[gb202]? = some (.cells #[.int .i64 a1_0,.int .i64 a1_1,.string a1_2] 37 (0,0))) ∧ (Below w.heap.size w w')) ?_ ?_;rotate_left
        ·intro hJ1_5_10_11;refine join_ (σ:=Value) 5 #[true,true,true,true,true,true,true,true,true,true,true,false,false,true,true,false,false,false] (fun s_ => [(15,.string t205),(19,.string t206),(24,s_),(16,.string ((⟨#[69]⟩ : ByteArray) ++ t205)),(20,.string (((⟨#[69]⟩ : ByteArray) ++ t205) ++ t206))]) (fun s_ w' => (w'.cell? ⟨gb202,0,none⟩ = some (.int .i64 a1_0) ∧ w'.cell? ⟨gb202,1,none⟩ = some (.int .i64 a1_1) ∧ w'.cell? ⟨gb202,2,none⟩ = some (.string a1_2)) ∧ (Kd.R (Kd.int .u8) 5 w' w.heap.size (fun _ => True) s_ y207) ∧ (w'.heap[gb202]? = some (.cells #[.int .i64 a1_0,.int .i64 a1_1,.string a1_2] 37 (0,0))) ∧ (Below w.heap.size w w')) ?_ ?_;rotate_left
         ·intro hJ1_5_10;refine join_ (σ:=Value) 6 #[true,true,true,true,true,false,false,true,true,true,true,true,false,true,true,false,false,false] (fun s_ => [(15,.string t205),(24,s_),(25,.string (strOfNums y207)),(16,.string ((⟨#[69]⟩ : ByteArray) ++ t205))]) (fun s_ w' => (w'.cell? ⟨gb202,0,none⟩ = some (.int .i64 a1_0) ∧ w'.cell? ⟨gb202,1,none⟩ = some (.int .i64 a1_1) ∧ w'.cell? ⟨gb202,2,none⟩ = some (.string a1_2)) ∧ (Kd.R (Kd.int .u8) 5 w' w.heap.size (fun _ => True) s_ y207) ∧ (w'.heap[gb202]? = some (.cells #[.int .i64 a1_0,.int .i64 a1_1,.string a1_2] 37 (0,0))) ∧ (Below w.heap.size w w')) ?_ ?_;rotate_left
          ·intro hJ1_10_11;refine join_ (σ:=Unit) 6 #[true,true,true,true,true,true,true,true,true,true,false,false,false,true,true,false,false,false] (fun s_ => [(15,.string t205),(19,.string t206),(16,.string ((⟨#[69]⟩ : ByteArray) ++ t205)),(20,.string (((⟨#[69]⟩ : ByteArray) ++ t205) ++ t206))]) (fun s_ w' => (w'.cell? ⟨gb202,0,none⟩ = some (.int .i64 a1_0) ∧ w'.cell? ⟨gb202,1,none⟩ = some (.int .i64 a1_1) ∧ w'.cell? ⟨gb202,2,none⟩ = some (.string a1_2)) ∧ (w'.heap[gb202]? = some (.cells #[.int .i64 a1_0,.int .i64 a1_1,.string a1_2] 37 (0,0))) ∧ (Below w.heap.size w w')) ?_ ?_;rotate_left
           ·intro hJ1_5;refine join_ (σ:=Value) 7 #[true,true,true,true,true,false,false,true,true,true,true,false,false,true,true,false,false,false] (fun s_ => [(15,.string t205),(24,s_),(16,.string ((⟨#[69]⟩ : ByteArray) ++ t205))]) (fun s_ w' => (w'.cell? ⟨gb202,0,none⟩ = some (.int .i64 a1_0) ∧ w'.cell? ⟨gb202,1,none⟩ = some (.int .i64 a1_1) ∧ w'.cell? ⟨gb202,2,none⟩ = some (.string a1_2)) ∧ (Kd.R (Kd.int .u8) 5 w' w.heap.size (fun _ => True) s_ y207) ∧ (w'.heap[gb202]? = some (.cells #[.int .i64 a1_0,.int .i64 a1_1,.string a1_2] 37 (0,0))) ∧ (Below w.heap.size w w')) ?_ ?_;rotate_left
            ·intro hJ1_10;refine join_ (σ:=Value) 8 #[true,false,false,true,true,false,false,true,true,true,true,true,false,true,true,false,false,false] (fun s_ => [(24,s_),(25,.string (strOfNums y207))]) (fun s_ w' => (w'.cell? ⟨gb202,0,none⟩ = some (.int .i64 a1_0) ∧ w'.cell? ⟨gb202,1,none⟩ = some (.int .i64 a1_1) ∧ w'.cell? ⟨gb202,2,none⟩ = some (.string a1_2)) ∧ (Kd.R (Kd.int .u8) 5 w' w.heap.size (fun _ => True) s_ y207) ∧ (w'.heap[gb202]? = some (.cells #[.int .i64 a1_0,.int .i64 a1_1,.string a1_2] 37 (0,0))) ∧ (Below w.heap.size w w')) ?_ ?_;rotate_left
             ·intro hJ10_11;refine join_ (σ:=Unit) 8 #[true,true,true,true,true,false,false,true,true,true,false,false,false,true,true,false,false,false] (fun s_ => [(15,.string t205),(16,.string ((⟨#[69]⟩ : ByteArray) ++ t205))]) (fun s_ w' => (w'.cell? ⟨gb202,0,none⟩ = some (.int .i64 a1_0) ∧ w'.cell? ⟨gb202,1,none⟩ = some (.int .i64 a1_1) ∧ w'.cell? ⟨gb202,2,none⟩ = some (.string a1_2)) ∧ (w'.heap[gb202]? = some (.cells #[.int .i64 a1_0,.int .i64 a1_1,.string a1_2] 37 (0,0))) ∧ (Below w.heap.size w w')) ?_ ?_;rotate_left
              ·intro hJ1;refine join_ (σ:=Value) 9 #[true,false,false,true,true,false,false,true,true,true,true,false,false,true,true,false,false,false] (fun s_ => [(24,s_)]) (fun s_ w' => (w'.cell? ⟨gb202,0,none⟩ = some (.int .i64 a1_0) ∧ w'.cell? ⟨gb202,1,none⟩ = some (.int .i64 a1_1) ∧ w'.cell? ⟨gb202,2,none⟩ = some (.string a1_2)) ∧ (Kd.R (Kd.int .u8) 5 w' w.heap.size (fun _ => True) s_ y207) ∧ (w'.heap[gb202]? = some (.cells #[.int .i64 a1_0,.int .i64 a1_1,.string a1_2] 37 (0,0))) ∧ (Below w.heap.size w w')) ?_ ?_;rotate_left
               ·intro hJ10;refine two_ (i:=1) (j:=10) (Ni:=some 15) (Nj:=some 24) #[true,true,false,true,true,false,false,true,true,true,false,false,false,true,true,false,false,false] #[true,false,false,true,true,false,false,true,true,true,true,false,false,true,true,false,false,false] rfl rfl rfl rfl (two_of HT_.out (by kernel_rfl)) (by decide) (by decide) (fun K hK => ?_) (fun K hK => ?_)
                ·skip
                 refine goes_ Try.func80 (by kernel_rfl) rfl #[.int .i64 a0] (by rfl) rfl rfl aq_ ?_;with_reducible refine (spec_l01Var.calls kj2 a0 t205 _ A13.out).mono ?_;rintro e w20 ⟨rfl,hb⟩;refine ⟨_,rfl,?_⟩;replace BK202:=A_ (kb_ (kq_ BK202) hb);replace HB:=A_ (bs_ (bq_ HB) hb)
                 (try clear hb)
                 (try clear hb2)
                 (try clear hk)
                 (try clear hi)
                 refine hK.out _ _ ⟨kC_ BK202 0,kC_ BK202 1,kC_ BK202 2⟩ (fun hHeld => ?_);clear hK K;refine norm_ (a':=?_) ?_ ?_;rotate_left
                 ·show Act.put _ (some 15) _ = _;simp only [Act.put,s1_,s2_,s3_,i64_w,i32_w];rfl
                 refine pure_ (i:=2) (N:=some 16) (v:=?_) (a':=?_) #[true,true,true,true,true,false,false,true,true,true,false,false,false,true,true,false,false,false] rfl rfl (any_of HT_.out (by kernel_rfl)) (fun _ _ _ h => h) (Or.inl ⟨by rfl,?_⟩) ?_ ?_;rotate_left
                 ·intro w';go_simp;with_reducible rfl
                 rotate_left
                 ·exact ux_
                 exact norm_ (by first|(simp only [putAll,Act.put,s1_,s2_,s3_];done)|(simp only [putAll,Act.put,s1_,s2_,s3_];rfl)) (hJ1 () _ ⟨hHeld,(kq_ BK202),(bq_ HB)⟩)
                ·skip
                 refine Kd.R_lit_step (Kd.int .u8) _ 5 ?hg (N:=24) ?hd (xs:=([(a1_1) % 256] : List Int)) (inner:=[.int .u8 ((a1_1) % 256)]) (ok:=fun _ => True) (okp:=fun _ => True) ?hr ?hp (fun _ hk => hk) trivial (Below.refl _ _) (Nat.le_refl _) (by simp) ?_;(case hd => rfl);(case hg => rfl);(case hr => exact gx_);(case hp => exact (Reps.one (show Kd.M (Kd.int .u8) _ _ _ ((a1_1) % 256) [.int .u8 ((a1_1) % 256)] from rfl) (Reps.none _ _)));intro v208 w20 ho21 hb hg_ hnew_;clear hg_ hnew_
                 (first|rw [← Ny207.out] at ho21|(simp only [Int.reduceToNat] at ho21;rw [← Ny207.out] at ho21))
                 have HO209:=A_ (rw_ ho21 (bz_ (bq_ HB)));replace BK202:=A_ (kb_ (kq_ BK202) hb);replace HB:=A_ (bs_ (bq_ HB) hb);clear hb ho21;refine hK.out _ _ ⟨kC_ BK202 0,kC_ BK202 1,kC_ BK202 2⟩ (fun hHeld => ?_);clear hK K;refine norm_ (a':=?_) ?_ ?_;rotate_left
                 ·show Act.put _ (some 24) _ = _;simp only [Act.put,s1_,s2_,s3_,i64_w,i32_w];rfl
                 exact norm_ (by first|(simp only [putAll,Act.put,s1_,s2_,s3_];done)|(simp only [putAll,Act.put,s1_,s2_,s3_];rfl)) (hJ10 (v208) _ ⟨hHeld,(rq_ HO209),(kq_ BK202),(bq_ HB)⟩)
               ·skip
                rintro v208 w22 ⟨hS_,h0_,h1_,h2_⟩;have n0_ : Aside0 (Kd.R (Kd.int .u8) 5 w22 w.heap.size (fun _ => True) v208 y207):=⟨h0_⟩;have n1_ : Aside0 (w22.heap[gb202]? = some (.cells #[.int .i64 a1_0,.int .i64 a1_1,.string a1_2] 37 (0,0))):=⟨h1_⟩;have n2_ : Aside0 (Below w.heap.size w w22):=⟨h2_⟩;clear BK202;clear HB;clear h0_ h1_ h2_;have HO209:=n0_;have BK202:=n1_;have HB:=n2_;clear n0_ n1_ n2_;have hHeld : w22.cell? ⟨gb202,0,none⟩ = some (.int .i64 a1_0) ∧ w22.cell? ⟨gb202,1,none⟩ = some (.int .i64 a1_1) ∧ w22.cell? ⟨gb202,2,none⟩ = some (.string a1_2):=hS_;refine norm_ (a':=?_) ?_ ?_;rotate_left
                ·simp only [putAll,Act.put,s1_,s2_,s3_];rfl
                refine two_ (i:=1) (j:=11) (Ni:=some 15) (Nj:=some 25) #[true,true,false,true,true,false,false,true,true,true,true,false,false,true,true,false,false,false] #[true,false,false,true,true,false,false,true,true,true,true,true,false,true,true,false,false,false] rfl rfl rfl rfl (two_of HT_.out (by kernel_rfl)) (by decide) (by decide) (fun K hK => ?_) (fun K hK => ?_)
                ·skip
                 refine goes_ Try.func80 (by kernel_rfl) rfl #[.int .i64 a0] (by rfl) rfl rfl aq_ ?_;with_reducible refine (spec_l01Var.calls kj2 a0 t205 _ A13.out).mono ?_;rintro e w23 ⟨rfl,hb⟩;refine ⟨_,rfl,?_⟩;replace HO209:=A_ (rb_ (rq_ HO209) hb);replace BK202:=A_ (kb_ (kq_ BK202) hb);replace HB:=A_ (bs_ (bq_ HB) hb)
                 (try clear hb)
                 (try clear hb2)
                 (try clear hk)
                 (try clear hi)
                 refine hK.out _ _ ⟨kC_ BK202 0,kC_ BK202 1,kC_ BK202 2⟩ (fun hHeld => ?_);clear hK K;refine norm_ (a':=?_) ?_ ?_;rotate_left
                 ·show Act.put _ (some 15) _ = _;simp only [Act.put,s1_,s2_,s3_,i64_w,i32_w];rfl
                 refine pure_ (i:=2) (N:=some 16) (v:=?_) (a':=?_) #[true,true,true,true,true,false,false,true,true,true,true,false,false,true,true,false,false,false] rfl rfl (any_of HT_.out (by kernel_rfl)) (fun _ _ _ h => h) (Or.inl ⟨by rfl,?_⟩) ?_ ?_;rotate_left
                 ·intro w';go_simp;with_reducible rfl
                 rotate_left
                 ·exact ux_
                 exact norm_ (by first|(simp only [putAll,Act.put,s1_,s2_,s3_];done)|(simp only [putAll,Act.put,s1_,s2_,s3_];rfl)) (hJ1_10 (v208) _ ⟨hHeld,(rq_ HO209),(kq_ BK202),(bq_ HB)⟩)
                ·skip
                 have hcv23:=own_string (P:=Try.prog) Try.underlying22 Try.underlying5 Try.underlying9 (Kd.own_of_R HO209.out);refine value_ (w1:=?_) (v:=?_) (by rfl) rfl ?_ ?_;rotate_left 2
                 ·go_simp
                  constructor
                  ·rfl
                  ·rfl
                 clear hcv23;refine hK.out _ _ ⟨kC_ BK202 0,kC_ BK202 1,kC_ BK202 2⟩ (fun hHeld => ?_);clear hK K;refine norm_ (a':=?_) ?_ ?_;rotate_left
                 ·show Act.put _ (some 25) _ = _;simp only [Act.put,s1_,s2_,s3_,i64_w,i32_w];rfl
                 exact norm_ (by first|(simp only [putAll,Act.put,s1_,s2_,s3_];done)|(simp only [putAll,Act.put,s1_,s2_,s3_];rfl)) (hJ10_11 (v208) _ ⟨hHeld,(rq_ HO209),(kq_ BK202),(bq_ HB)⟩)
              ·skip
               rintro _ w21 ⟨hS_,h0_,h1_⟩;have n0_ : Aside0 (w21.heap[gb202]? = some (.cells #[.int .i64 a1_0,.int .i64 a1_1,.string a1_2] 37 (0,0))):=⟨h0_⟩;have n1_ : Aside0 (Below w.heap.size w w21):=⟨h1_⟩;clear BK202;clear HB;clear h0_ h1_;have BK202:=n0_;have HB:=n1_;clear n0_ n1_;have hHeld : w21.cell? ⟨gb202,0,none⟩ = some (.int .i64 a1_0) ∧ w21.cell? ⟨gb202,1,none⟩ = some (.int .i64 a1_1) ∧ w21.cell? ⟨gb202,2,none⟩ = some (.string a1_2):=hS_;refine norm_ (a':=?_) ?_ ?_;rotate_left
               ·simp only [putAll,Act.put,s1_,s2_,s3_];rfl
               refine two_ (i:=5) (j:=10) (Ni:=some 19) (Nj:=some 24) #[true,true,true,true,true,true,false,true,true,true,false,false,false,true,true,false,false,false] #[true,true,true,true,true,false,false,true,true,true,true,false,false,true,true,false,false,false] rfl rfl rfl rfl (two_of HT_.out (by kernel_rfl)) (by decide) (by decide) (fun K hK => ?_) (fun K hK => ?_)
               ·skip
                refine goes_ Try.func80 (by kernel_rfl) rfl #[.int .i64 a1_0] (by rfl) rfl rfl aq_ ?_;with_reducible refine (spec_l01Var.calls kj2 a1_0 t206 _ A15.out).mono ?_;rintro e w22 ⟨rfl,hb⟩;refine ⟨_,rfl,?_⟩;replace BK202:=A_ (kb_ (kq_ BK202) hb);replace HB:=A_ (bs_ (bq_ HB) hb)
                (try clear hb)
                (try clear hb2)
                (try clear hk)
                (try clear hi)
                refine hK.out _ _ ⟨kC_ BK202 0,kC_ BK202 1,kC_ BK202 2⟩ (fun hHeld => ?_);clear hK K;refine norm_ (a':=?_) ?_ ?_;rotate_left
                ·show Act.put _ (some 19) _ = _;simp only [Act.put,s1_,s2_,s3_,i64_w,i32_w];rfl
                refine pure_ (i:=6) (N:=some 20) (v:=?_) (a':=?_) #[true,true,true,true,true,true,true,true,true,true,false,false,false,true,true,false,false,false] rfl rfl (any_of HT_.out (by kernel_rfl)) (fun _ _ _ h => h) (Or.inl ⟨by rfl,?_⟩) ?_ ?_;rotate_left
                ·intro w';go_simp;with_reducible rfl
                rotate_left
                ·exact ux_
                exact norm_ (by first|(simp only [putAll,Act.put,s1_,s2_,s3_];done)|(simp only [putAll,Act.put,s1_,s2_,s3_];rfl)) (hJ1_5 () _ ⟨hHeld,(kq_ BK202),(bq_ HB)⟩)
               ·skip
                refine Kd.R_lit_step (Kd.int .u8) _ 5 ?hg (N:=24) ?hd (xs:=([(a1_1) % 256] : List Int)) (inner:=[.int .u8 ((a1_1) % 256)]) (ok:=fun _ => True) (okp:=fun _ => True) ?hr ?hp (fun _ hk => hk) trivial (Below.refl _ _) (Nat.le_refl _) (by simp) ?_;(case hd => rfl);(case hg => rfl);(case hr => exact gx_);(case hp => exact (Reps.one (show Kd.M (Kd.int .u8) _ _ _ ((a1_1) % 256) [.int .u8 ((a1_1) % 256)] from rfl) (Reps.none _ _)));intro v208 w22 ho23 hb hg_ hnew_;clear hg_ hnew_
                (first|rw [← Ny207.out] at ho23|(simp only [Int.reduceToNat] at ho23;rw [← Ny207.out] at ho23))
                have HO209:=A_ (rw_ ho23 (bz_ (bq_ HB)));replace BK202:=A_ (kb_ (kq_ BK202) hb);replace HB:=A_ (bs_ (bq_ HB) hb);clear hb ho23;refine hK.out _ _ ⟨kC_ BK202 0,kC_ BK202 1,kC_ BK202 2⟩ (fun hHeld => ?_);clear hK K;refine norm_ (a':=?_) ?_ ?_;rotate_left
                ·show Act.put _ (some 24) _ = _;simp only [Act.put,s1_,s2_,s3_,i64_w,i32_w];rfl
                exact norm_ (by first|(simp only [putAll,Act.put,s1_,s2_,s3_];done)|(simp only [putAll,Act.put,s1_,s2_,s3_];rfl)) (hJ1_10 (v208) _ ⟨hHeld,(rq_ HO209),(kq_ BK202),(bq_ HB)⟩)
             ·skip
              rintro v208 w23 ⟨hS_,h0_,h1_,h2_⟩;have n0_ : Aside0 (Kd.R (Kd.int .u8) 5 w23 w.heap.size (fun _ => True) v208 y207):=⟨h0_⟩;have n1_ : Aside0 (w23.heap[gb202]? = some (.cells #[.int .i64 a1_0,.int .i64 a1_1,.string a1_2] 37 (0,0))):=⟨h1_⟩;have n2_ : Aside0 (Below w.heap.size w w23):=⟨h2_⟩;clear BK202;clear HB;clear h0_ h1_ h2_;have HO209:=n0_;have BK202:=n1_;have HB:=n2_;clear n0_ n1_ n2_;have hHeld : w23.cell? ⟨gb202,0,none⟩ = some (.int .i64 a1_0) ∧ w23.cell? ⟨gb202,1,none⟩ = some (.int .i64 a1_1) ∧ w23.cell? ⟨gb202,2,none⟩ = some (.string a1_2):=hS_;refine norm_ (a':=?_) ?_ ?_;rotate_left
              ·simp only [putAll,Act.put,s1_,s2_,s3_];rfl
              refine one_ (i:=1) (N:=some 15) #[true,true,false,true,true,false,false,true,true,true,true,true,false,true,true,false,false,false] rfl rfl (one_of HT_.out (by kernel_rfl)) (by decide) (fun K hK => ?_);refine goes_ Try.func80 (by kernel_rfl) rfl #[.int .i64 a0] (by rfl) rfl rfl aq_ ?_;with_reducible refine (spec_l01Var.calls kj2 a0 t205 _ A13.out).mono ?_;rintro e w24 ⟨rfl,hb⟩;refine ⟨_,rfl,?_⟩;replace HO209:=A_ (rb_ (rq_ HO209) hb);replace BK202:=A_ (kb_ (kq_ BK202) hb);replace HB:=A_ (bs_ (bq_ HB) hb)
              (try clear hb)
              (try clear hb2)
              (try clear hk)
              (try clear hi)
              refine hK.out _ _ ⟨kC_ BK202 0,kC_ BK202 1,kC_ BK202 2⟩ (fun hHeld => ?_);clear hK K;refine norm_ (a':=?_) ?_ ?_;rotate_left
              ·show Act.put _ (some 15) _ = _;simp only [Act.put,s1_,s2_,s3_,i64_w,i32_w];rfl
              refine pure_ (i:=2) (N:=some 16) (v:=?_) (a':=?_) #[true,true,true,true,true,false,false,true,true,true,true,true,false,true,true,false,false,false] rfl rfl (any_of HT_.out (by kernel_rfl)) (fun _ _ _ h => h) (Or.inl ⟨by rfl,?_⟩) ?_ ?_;rotate_left
              ·intro w';go_simp;with_reducible rfl
              rotate_left
              ·exact ux_
              exact norm_ (by first|(simp only [putAll,Act.put,s1_,s2_,s3_];done)|(simp only [putAll,Act.put,s1_,s2_,s3_];rfl)) (hJ1_10_11 (v208) _ ⟨hHeld,(rq_ HO209),(kq_ BK202),(bq_ HB)⟩)
            ·skip
             rintro v208 w23 ⟨hS_,h0_,h1_,h2_⟩;have n0_ : Aside0 (Kd.R (Kd.int .u8) 5 w23 w.heap.size (fun _ => True) v208 y207):=⟨h0_⟩;have n1_ : Aside0 (w23.heap[gb202]? = some (.cells #[.int .i64 a1_0,.int .i64 a1_1,.string a1_2] 37 (0,0))):=⟨h1_⟩;have n2_ : Aside0 (Below w.heap.size w w23):=⟨h2_⟩;clear BK202;clear HB;clear h0_ h1_ h2_;have HO209:=n0_;have BK202:=n1_;have HB:=n2_;clear n0_ n1_ n2_;have hHeld : w23.cell? ⟨gb202,0,none⟩ = some (.int .i64 a1_0) ∧ w23.cell? ⟨gb202,1,none⟩ = some (.int .i64 a1_1) ∧ w23.cell? ⟨gb202,2,none⟩ = some (.string a1_2):=hS_;refine norm_ (a':=?_) ?_ ?_;rotate_left
             ·simp only [putAll,Act.put,s1_,s2_,s3_];rfl
             refine two_ (i:=5) (j:=11) (Ni:=some 19) (Nj:=some 25) #[true,true,true,true,true,true,false,true,true,true,true,false,false,true,true,false,false,false] #[true,true,true,true,true,false,false,true,true,true,true,true,false,true,true,false,false,false] rfl rfl rfl rfl (two_of HT_.out (by kernel_rfl)) (by decide) (by decide) (fun K hK => ?_) (fun K hK => ?_)
             ·skip
              refine goes_ Try.func80 (by kernel_rfl) rfl #[.int .i64 a1_0] (by rfl) rfl rfl aq_ ?_;with_reducible refine (spec_l01Var.calls kj2 a1_0 t206 _ A15.out).mono ?_;rintro e w24 ⟨rfl,hb⟩;refine ⟨_,rfl,?_⟩;replace HO209:=A_ (rb_ (rq_ HO209) hb);replace BK202:=A_ (kb_ (kq_ BK202) hb);replace HB:=A_ (bs_ (bq_ HB) hb)
              (try clear hb)
              (try clear hb2)
              (try clear hk)
              (try clear hi)
              refine hK.out _ _ ⟨kC_ BK202 0,kC_ BK202 1,kC_ BK202 2⟩ (fun hHeld => ?_);clear hK K;refine norm_ (a':=?_) ?_ ?_;rotate_left
              ·show Act.put _ (some 19) _ = _;simp only [Act.put,s1_,s2_,s3_,i64_w,i32_w];rfl
              refine pure_ (i:=6) (N:=some 20) (v:=?_) (a':=?_) #[true,true,true,true,true,true,true,true,true,true,true,false,false,true,true,false,false,false] rfl rfl (any_of HT_.out (by kernel_rfl)) (fun _ _ _ h => h) (Or.inl ⟨by rfl,?_⟩) ?_ ?_;rotate_left
              ·intro w';go_simp;with_reducible rfl
              rotate_left
              ·exact ux_
              exact norm_ (by first|(simp only [putAll,Act.put,s1_,s2_,s3_];done)|(simp only [putAll,Act.put,s1_,s2_,s3_];rfl)) (hJ1_5_10 (v208) _ ⟨hHeld,(rq_ HO209),(kq_ BK202),(bq_ HB)⟩)
             ·skip
              have hcv24:=own_string (P:=Try.prog) Try.underlying22 Try.underlying5 Try.underlying9 (Kd.own_of_R HO209.out);refine value_ (w1:=?_) (v:=?_) (by rfl) rfl ?_ ?_;rotate_left 2
              ·go_simp
               constructor
               ·rfl
               ·rfl
              clear hcv24;refine hK.out _ _ ⟨kC_ BK202 0,kC_ BK202 1,kC_ BK202 2⟩ (fun hHeld => ?_);clear hK K;refine norm_ (a':=?_) ?_ ?_;rotate_left
              ·show Act.put _ (some 25) _ = _;simp only [Act.put,s1_,s2_,s3_,i64_w,i32_w];rfl
              exact norm_ (by first|(simp only [putAll,Act.put,s1_,s2_,s3_];done)|(simp only [putAll,Act.put,s1_,s2_,s3_];rfl)) (hJ1_10_11 (v208) _ ⟨hHeld,(rq_ HO209),(kq_ BK202),(bq_ HB)⟩)
           ·skip
            rintro _ w22 ⟨hS_,h0_,h1_⟩;have n0_ : Aside0 (w22.heap[gb202]? = some (.cells #[.int .i64 a1_0,.int .i64 a1_1,.string a1_2] 37 (0,0))):=⟨h0_⟩;have n1_ : Aside0 (Below w.heap.size w w22):=⟨h1_⟩;clear BK202;clear HB;clear h0_ h1_;have BK202:=n0_;have HB:=n1_;clear n0_ n1_;have hHeld : w22.cell? ⟨gb202,0,none⟩ = some (.int .i64 a1_0) ∧ w22.cell? ⟨gb202,1,none⟩ = some (.int .i64 a1_1) ∧ w22.cell? ⟨gb202,2,none⟩ = some (.string a1_2):=hS_;refine norm_ (a':=?_) ?_ ?_;rotate_left
            ·simp only [putAll,Act.put,s1_,s2_,s3_];rfl
            refine one_ (i:=10) (N:=some 24) #[true,true,true,true,true,true,true,true,true,true,true,false,false,true,true,false,false,false] rfl rfl (one_of HT_.out (by kernel_rfl)) (by decide) (fun K hK => ?_);refine Kd.R_lit_step (Kd.int .u8) _ 5 ?hg (N:=24) ?hd (xs:=([(a1_1) % 256] : List Int)) (inner:=[.int .u8 ((a1_1) % 256)]) (ok:=fun _ => True) (okp:=fun _ => True) ?hr ?hp (fun _ hk => hk) trivial (Below.refl _ _) (Nat.le_refl _) (by simp) ?_;(case hd => rfl);(case hg => rfl);(case hr => exact gx_);(case hp => exact (Reps.one (show Kd.M (Kd.int .u8) _ _ _ ((a1_1) % 256) [.int .u8 ((a1_1) % 256)] from rfl) (Reps.none _ _)));intro v208 w23 ho24 hb hg_ hnew_;clear hg_ hnew_
            (first|rw [← Ny207.out] at ho24|(simp only [Int.reduceToNat] at ho24;rw [← Ny207.out] at ho24))
            have HO209:=A_ (rw_ ho24 (bz_ (bq_ HB)));replace BK202:=A_ (kb_ (kq_ BK202) hb);replace HB:=A_ (bs_ (bq_ HB) hb);clear hb ho24;refine hK.out _ _ ⟨kC_ BK202 0,kC_ BK202 1,kC_ BK202 2⟩ (fun hHeld => ?_);clear hK K;refine norm_ (a':=?_) ?_ ?_;rotate_left
            ·show Act.put _ (some 24) _ = _;simp only [Act.put,s1_,s2_,s3_,i64_w,i32_w];rfl
            exact norm_ (by first|(simp only [putAll,Act.put,s1_,s2_,s3_];done)|(simp only [putAll,Act.put,s1_,s2_,s3_];rfl)) (hJ1_5_10 (v208) _ ⟨hHeld,(rq_ HO209),(kq_ BK202),(bq_ HB)⟩)
          ·skip
           rintro v208 w24 ⟨hS_,h0_,h1_,h2_⟩;have n0_ : Aside0 (Kd.R (Kd.int .u8) 5 w24 w.heap.size (fun _ => True) v208 y207):=⟨h0_⟩;have n1_ : Aside0 (w24.heap[gb202]? = some (.cells #[.int .i64 a1_0,.int .i64 a1_1,.string a1_2] 37 (0,0))):=⟨h1_⟩;have n2_ : Aside0 (Below w.heap.size w w24):=⟨h2_⟩;clear BK202;clear HB;clear h0_ h1_ h2_;have HO209:=n0_;have BK202:=n1_;have HB:=n2_;clear n0_ n1_ n2_;have hHeld : w24.cell? ⟨gb202,0,none⟩ = some (.int .i64 a1_0) ∧ w24.cell? ⟨gb202,1,none⟩ = some (.int .i64 a1_1) ∧ w24.cell? ⟨gb202,2,none⟩ = some (.string a1_2):=hS_;refine norm_ (a':=?_) ?_ ?_;rotate_left
           ·simp only [putAll,Act.put,s1_,s2_,s3_];rfl
           refine one_ (i:=5) (N:=some 19) #[true,true,true,true,true,true,false,true,true,true,true,true,false,true,true,false,false,false] rfl rfl (one_of HT_.out (by kernel_rfl)) (by decide) (fun K hK => ?_);refine goes_ Try.func80 (by kernel_rfl) rfl #[.int .i64 a1_0] (by rfl) rfl rfl aq_ ?_;with_reducible refine (spec_l01Var.calls kj2 a1_0 t206 _ A15.out).mono ?_;rintro e w25 ⟨rfl,hb⟩;refine ⟨_,rfl,?_⟩;replace HO209:=A_ (rb_ (rq_ HO209) hb);replace BK202:=A_ (kb_ (kq_ BK202) hb);replace HB:=A_ (bs_ (bq_ HB) hb)
           (try clear hb)
           (try clear hb2)
           (try clear hk)
           (try clear hi)
           refine hK.out _ _ ⟨kC_ BK202 0,kC_ BK202 1,kC_ BK202 2⟩ (fun hHeld => ?_);clear hK K;refine norm_ (a':=?_) ?_ ?_;rotate_left
           ·show Act.put _ (some 19) _ = _;simp only [Act.put,s1_,s2_,s3_,i64_w,i32_w];rfl
           refine pure_ (i:=6) (N:=some 20) (v:=?_) (a':=?_) #[true,true,true,true,true,true,true,true,true,true,true,true,false,true,true,false,false,false] rfl rfl (any_of HT_.out (by kernel_rfl)) (fun _ _ _ h => h) (Or.inl ⟨by rfl,?_⟩) ?_ ?_;rotate_left
           ·intro w';go_simp;with_reducible rfl
           rotate_left
           ·exact ux_
           exact norm_ (by first|(simp only [putAll,Act.put,s1_,s2_,s3_];done)|(simp only [putAll,Act.put,s1_,s2_,s3_];rfl)) (hJ1_5_10_11 (v208) _ ⟨hHeld,(rq_ HO209),(kq_ BK202),(bq_ HB)⟩)
         ·skip
          rintro v208 w24 ⟨hS_,h0_,h1_,h2_⟩;have n0_ : Aside0 (Kd.R (Kd.int .u8) 5 w24 w.heap.size (fun _ => True) v208 y207):=⟨h0_⟩;have n1_ : Aside0 (w24.heap[gb202]? = some (.cells #[.int .i64 a1_0,.int .i64 a1_1,.string a1_2] 37 (0,0))):=⟨h1_⟩;have n2_ : Aside0 (Below w.heap.size w w24):=⟨h2_⟩;clear BK202;clear HB;clear h0_ h1_ h2_;have HO209:=n0_;have BK202:=n1_;have HB:=n2_;clear n0_ n1_ n2_;have hHeld : w24.cell? ⟨gb202,0,none⟩ = some (.int .i64 a1_0) ∧ w24.cell? ⟨gb202,1,none⟩ = some (.int .i64 a1_1) ∧ w24.cell? ⟨gb202,2,none⟩ = some (.string a1_2):=hS_;refine norm_ (a':=?_) ?_ ?_;rotate_left
          ·simp only [putAll,Act.put,s1_,s2_,s3_];rfl
          refine one_ (i:=11) (N:=some 25) #[true,true,true,true,true,true,true,true,true,true,true,true,false,true,true,false,false,false] rfl rfl (one_of HT_.out (by kernel_rfl)) (by decide) (fun K hK => ?_);have hcv25:=own_string (P:=Try.prog) Try.underlying22 Try.underlying5 Try.underlying9 (Kd.own_of_R HO209.out);refine value_ (w1:=?_) (v:=?_) (by rfl) rfl ?_ ?_;rotate_left 2
          ·go_simp
           constructor
           ·rfl
           ·rfl
          clear hcv25;refine hK.out _ _ ⟨kC_ BK202 0,kC_ BK202 1,kC_ BK202 2⟩ (fun hHeld => ?_);clear hK K;refine norm_ (a':=?_) ?_ ?_;rotate_left
          ·show Act.put _ (some 25) _ = _;simp only [Act.put,s1_,s2_,s3_,i64_w,i32_w];rfl
          exact norm_ (by first|(simp only [putAll,Act.put,s1_,s2_,s3_];done)|(simp only [putAll,Act.put,s1_,s2_,s3_];rfl)) (hJ1_5_10_11 (v208) _ ⟨hHeld,(rq_ HO209),(kq_ BK202),(bq_ HB)⟩)
        rintro v208 w25 ⟨hS_,h0_,h1_,h2_⟩;have n0_ : Aside0 (Kd.R (Kd.int .u8) 5 w25 w.heap.size (fun _ => True) v208 y207):=⟨h0_⟩;have n1_ : Aside0 (w25.heap[gb202]? = some (.cells #[.int .i64 a1_0,.int .i64 a1_1,.string a1_2] 37 (0,0))):=⟨h1_⟩;have n2_ : Aside0 (Below w.heap.size w w25):=⟨h2_⟩;clear BK202;clear HB;clear h0_ h1_ h2_;have HO209:=n0_;have BK202:=n1_;have HB:=n2_;clear n0_ n1_ n2_;have hHeld : w25.cell? ⟨gb202,0,none⟩ = some (.int .i64 a1_0) ∧ w25.cell? ⟨gb202,1,none⟩ = some (.int .i64 a1_1) ∧ w25.cell? ⟨gb202,2,none⟩ = some (.string a1_2):=hS_;refine norm_ (a':=?_) ?_ ?_;rotate_left
        ·simp only [putAll,Act.put,s1_,s2_,s3_];rfl
        refine pure_ (i:=12) (N:=some 26) (v:=?_) (a':=?_) #[true,true,true,true,true,true,true,true,true,true,true,true,true,true,true,false,false,false] rfl rfl (any_of HT_.out (by kernel_rfl)) (fun _ _ _ h => h) (Or.inl ⟨by rfl,?_⟩) ?_ ?_;rotate_left
        ·intro w';go_simp;with_reducible rfl
        rotate_left
        ·exact ux_
        refine pure_ (i:=15) (N:=some 29) (v:=?_) (a':=?_) #[true,true,true,true,true,true,true,true,true,true,true,true,true,true,true,true,false,false] rfl rfl (any_of HT_.out (by kernel_rfl)) (fun _ _ _ h => h) (Or.inl ⟨by rfl,?_⟩) ?_ ?_;rotate_left
        ·intro w';go_simp;with_reducible rfl
        rotate_left
        ·exact ux_
        refine pure_ (i:=16) (N:=some 4) (v:=?_) (a':=?_) #[true,true,true,true,true,true,true,true,true,true,true,true,true,true,true,true,true,false] rfl rfl (any_of HT_.out (by kernel_rfl)) (fun _ _ _ h => h) (Or.inl ⟨by rfl,?_⟩) ?_ ?_;rotate_left
        ·intro w';go_simp;with_reducible rfl
        rotate_left
        ·exact ux_
        refine pure_ (i:=17) (N:=some 5) (v:=?_) (a':=?_) #[true,true,true,true,true,true,true,true,true,true,true,true,true,true,true,true,true,true] rfl rfl (any_of HT_.out (by kernel_rfl)) (fun _ _ _ h => h) (Or.inl ⟨by rfl,?_⟩) ?_ ?_;rotate_left
        ·intro w';go_simp;with_reducible rfl
        rotate_left
        ·exact ux_
        refine done_ (done_of HT_.out (by kernel_rfl)) ?_
        try go_wp2
        go_ret2;exact ⟨ex_,bq_ HB⟩
       ·rw [if_neg c18] at H;exact absurd H (by simp)
      ·rw [if_neg c17] at H;exact absurd H (by simp)
     ·rw [if_neg c16] at H;exact absurd H (by simp)
    ·rw [if_neg c14] at H;exact absurd H (by simp)
end Go.Proofs.Ytgpafelepkhdoaa.PFnBehind
