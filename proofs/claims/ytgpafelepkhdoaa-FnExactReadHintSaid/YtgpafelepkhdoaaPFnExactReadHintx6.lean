/- The contracts of the Go functions that this law reaches: what each call returns, by a plain Lean function of its arguments. No conditions but those each contract names. By the kit's print.py, run by this session's wip/gen/pp.py with facts and hand proofs beside it: not to the letter what print.sh prints. -/
import Derived.Test.YtgpafelepkhdoaaPFnExactReadHintx0
import Derived.Test.YtgpafelepkhdoaaPFnExactReadHintx2
import Derived.Test.YtgpafelepkhdoaaPFnExactReadHintx3
import Derived.Test.YtgpafelepkhdoaaPFnExactReadHintx5
namespace Go.Proofs.Ytgpafelepkhdoaa.PFnExactReadHint
open Go.RowKit Go.Proofs.YtgpafelepkhdoaaW.PrintWords Go.Proofs.YtgpafelepkhdoaaW.PrintLast Go.Proofs.YtgpafelepkhdoaaW.PrintMore
attribute [local go_sem] max2_int min2_int max_two min_two max_three min_three max_four min_four
set_option linter.unusedVariables false
set_option linter.unusedSimpArgs false
mutual
def spec_ReadHint.l0 : Nat → ByteArray → Int → List (S127) → Int → ByteArray → Int → Bool → Option ((List (S127)) × Bool)
 | 0,_,_,_,_,_,_,_ => none
 | k + 1,x0,x7,x8,x9,x158000,x158001,x158002 => if x9 < x7 then (if x158002 = true then (spec_ReadHint.j1 k x0 x7 x8 x9 false x158000 x158001 x158002) else (spec_ReadHint.j1 k x0 x7 x8 x9 (decide (x9 ≤ 60)) x158000 x158001 x158002)) else (spec_ReadHint.j1 k x0 x7 x8 x9 false x158000 x158001 x158002)
def spec_ReadHint.j1 : Nat → ByteArray → Int → List (S127) → Int → Bool → ByteArray → Int → Bool → Option ((List (S127)) × Bool)
 | 0,_,_,_,_,_,_,_,_ => none
 | k + 1,x0,x7,x8,x9,x39,x158000,x158001,x158002 => if x39 = true then ((spec_l05ReadShort.f k x158000 x158001 x158002).bind fun bt177 => ((spec_l05Var.f k bt177.2.1 bt177.2.2.1 bt177.2.2.2).bind fun bt181 => ((spec_l05Var.f k bt181.2.1 bt181.2.2.1 bt181.2.2.2).bind fun bt185 => ((spec_l05Var.f k bt185.2.1 bt185.2.2.1 bt185.2.2.2).bind fun bt189 => (if x8.length < 3518437208883 then (spec_ReadHint.l0 k x0 x7 (x8 ++ [(⟨bt177.1,bt181.1,bt185.1,bt189.1⟩ : S127)]) (wrap64 (x9 + 1)) bt189.2.1 bt189.2.2.1 bt189.2.2.2) else (none)))))) else ((spec_HintText.f k x8).bind fun bt165 => (if x158002 = true then (some ((([] : List (S127))),false)) else (if bt165.2 = true then (if bt165.1.toList = x0.toList then (some (x8,true)) else (some ((([] : List (S127))),false))) else (some ((([] : List (S127))),false)))))
end
def spec_ReadHint.f (k : Nat) (a0 : ByteArray) : Option ((List (S127)) × Bool) := (spec_Unsealed.f k a0).bind fun bt155 => ((spec_l05Var.f k bt155.1 0 (!bt155.2)).bind fun bt158 => (spec_ReadHint.l0 k a0 bt158.1 (([] : List (S127))) 0 bt158.2.1 bt158.2.2.1 bt158.2.2.2))
theorem spec_ReadHint.mono_l : ∀ k, (∀ y0 y1 y2 y3 y4 y5 y6, LeO (spec_ReadHint.l0 k y0 y1 y2 y3 y4 y5 y6) (spec_ReadHint.l0 (k + 1) y0 y1 y2 y3 y4 y5 y6)) ∧ (∀ y0 y1 y2 y3 y4 y5 y6 y7, LeO (spec_ReadHint.j1 k y0 y1 y2 y3 y4 y5 y6 y7) (spec_ReadHint.j1 (k + 1) y0 y1 y2 y3 y4 y5 y6 y7))
 | 0 => ⟨fun _ _ _ _ _ _ _ r h => by simp [spec_ReadHint.l0] at h,fun _ _ _ _ _ _ _ _ r h => by simp [spec_ReadHint.j1] at h⟩
 | k + 1 => by
  obtain ⟨ih0,ih1⟩:=spec_ReadHint.mono_l k;refine ⟨?_,?_⟩
  ·intro y0 y1 y2 y3 y4 y5 y6
   unfold spec_ReadHint.l0
   repeat' first
   | (with_reducible exact ih0 _ _ _ _ _ _ _)
   | (with_reducible exact ih1 _ _ _ _ _ _ _ _)
   | (with_reducible exact spec_HintText.mono _ _)
   | (with_reducible exact spec_Unsealed.mono _ _)
   | (with_reducible exact spec_l05ReadShort.mono _ _ _ _)
   | (with_reducible exact spec_l05Var.mono _ _ _ _)
   | (with_reducible exact LeO.refl _)
   | (with_reducible exact LeO.none _)
   | (with_reducible refine LeO.ite ?_ ?_)
   | (with_reducible refine LeO.bind ?_ (fun _ => ?_))
  ·intro y0 y1 y2 y3 y4 y5 y6 y7
   unfold spec_ReadHint.j1
   repeat' first
   | (with_reducible exact ih0 _ _ _ _ _ _ _)
   | (with_reducible exact ih1 _ _ _ _ _ _ _ _)
   | (with_reducible exact spec_HintText.mono _ _)
   | (with_reducible exact spec_Unsealed.mono _ _)
   | (with_reducible exact spec_l05ReadShort.mono _ _ _ _)
   | (with_reducible exact spec_l05Var.mono _ _ _ _)
   | (with_reducible exact LeO.refl _)
   | (with_reducible exact LeO.none _)
   | (with_reducible refine LeO.ite ?_ ?_)
   | (with_reducible refine LeO.bind ?_ (fun _ => ?_))
theorem spec_ReadHint.mono : ∀ a0 k, LeO (spec_ReadHint.f k a0) (spec_ReadHint.f (k + 1) a0) := by
 intro a0 k;obtain ⟨ih0,ih1⟩:=spec_ReadHint.mono_l k
 unfold spec_ReadHint.f
 repeat' first
   | (with_reducible exact ih0 _ _ _ _ _ _ _)
   | (with_reducible exact ih1 _ _ _ _ _ _ _ _)
   | (with_reducible exact spec_HintText.mono _ _)
   | (with_reducible exact spec_Unsealed.mono _ _)
   | (with_reducible exact spec_l05ReadShort.mono _ _ _ _)
   | (with_reducible exact spec_l05Var.mono _ _ _ _)
   | (with_reducible exact LeO.refl _)
   | (with_reducible exact LeO.none _)
   | (with_reducible refine LeO.ite ?_ ?_)
   | (with_reducible refine LeO.bind ?_ (fun _ => ?_))
set_option maxHeartbeats 8000000 in
set_option maxRecDepth 100000 in
theorem spec_ReadHint.calls (k : Nat) (a0 : ByteArray) (r1 : List (S127)) (r2 : Bool) (w : World) (h : spec_ReadHint.f k a0 = some (r1, r2)) :
  Calls Try.prog 42 #[.string a0] w fun e w' => ∃ v0_ : Value,e = .returned (.tuple #[v0_,.bool r2]) ∧ Kd.R k127 127 w' w.heap.size (fun _ => True) v0_ r1 ∧ Below w.heap.size w w':=by
 have hu112:=Try.underlying112;have hu127:=Try.underlying127;have HB:=A_ (Below.refl w.heap.size w);unfold spec_ReadHint.f at h;have H:=h;clear h;replace H:=ob_.mp H;obtain ⟨⟨t155,t156⟩,A20,H⟩:=H;(try dsimp only at H);have A2:=A_ A20;clear A20;replace H:=ob_.mp H;obtain ⟨⟨t158,t159,t160,t161⟩,A30,H⟩:=H;(try dsimp only at H);have A3:=A_ A30;clear A30;obtain ⟨y162,hy162⟩ : ∃ y_ : List (S127),y_ = (([] : List (S127))):=⟨_,rfl⟩
 replace H : (spec_ReadHint.l0 k a0 t158 y162 0 t159 t160 t161) = some (r1,r2):=by first|(rw [hy162];with_reducible exact H)|(have H2_:=(Option.bind_some _ _).symm.trans H;rw [hy162];with_reducible exact H2_)|(have H2_:=(Option.bind_some _ _).symm.trans H;with_reducible exact H2_)|with_reducible exact H|(rw [hy162];exact H)|exact H
 have Ny162:=A_ hy162;clear hy162;have H':=A_ H;clear H;go_enter Try.func42,Try.ntmps42
 go_wp2_with (first|((with_reducible refine gate_callee (f:=107) rfl ?_);refine gL_ (some 15) Try.func107 #[.string a0] ?_;(with_reducible refine (spec_Unsealed.calls k a0 t155 t156 _ A2.out).mono ?_);rintro e w4 ⟨rfl,hb⟩;refine ⟨_,rfl,?_⟩;replace HB:=bS_ HB hb;(try clear hb))|((with_reducible refine gate_dst (N:=22) rfl ?_);refine bE_ 22 #[.string t155,.int .i64 0,.bool (!t156)] 112 ?_;intro gb157 hg w5 hbox hb;have HI157:=A_ ((show IsS112 w w5 gb157 t155 0 (!t156) from ⟨hbox,(by rw [hg];exact (bz_ (bq_ HB)) : w.heap.size ≤ gb157)⟩));replace HB:=bS_ HB hb;clear hb hbox hg)|((with_reducible refine gate_callee (f:=85) rfl ?_);refine gL_ (some 24) Try.func85 #[.pointer (some ⟨gb157,0,none⟩)] ?_;(with_reducible refine (spec_l05Var.calls k gb157 t155 0 (!t156) t158 t159 t160 t161 w _ ?side1 ?side2 A3.out).mono ?_);(case side1 => exact iq112_ HI157);(case side2 => exact bi_ HB (IsS112.ge HI157.out));rintro e w6 ⟨rfl,hi,hb,hk⟩;refine ⟨_,rfl,?_⟩;replace HB:=A_ (hb);replace HI157:=A_ (hi);(try clear hb);(try clear hk);(try clear hi))|((with_reducible refine gate_dst (N:=25) rfl ?_);refine rX_ (d:=k127) (e:=127) (xs:=([] : List (S127))) (inner:=[]) (ok:=fun _ => True) (okp:=fun _ => True) 25 (Reps.none _ _) ?_;intro v163 w7 ho8 hb hg_ hnew_;clear hg_ hnew_;(first|rw [← Ny162.out] at ho8|(simp only [Int.reduceToNat] at ho8;rw [← Ny162.out] at ho8));have HO164:=A_ (rw_ ho8 (bz_ (bi_ HB (IsS112.ge HI157.out))));replace HB:=A_ (bs_ (bi_ HB (IsS112.ge HI157.out)) hb);replace HI157:=A_ (IsS112.below (iq112_ HI157) hb);clear hb ho8))
 go_loopg [8,9] k (fun kq v8 v9 w' => ∃ (x8_1 : List (S127)) (x9_1 : Int) (x158000_1 : ByteArray) (x158001_1 : Int) (x158002_1 : Bool),v9 = .int .i64 x9_1 ∧ Aside0 (spec_ReadHint.l0 kq a0 t158 x8_1 x9_1 x158000_1 x158001_1 x158002_1 = some (r1,r2)) ∧ Aside0 (kq ≤ k) ∧ Aside0 (Kd.R k127 127 w' w.heap.size (fun _ => True) v8 x8_1) ∧ Aside0 (IsS112 w w' gb157 x158000_1 x158001_1 x158002_1) ∧ Aside0 (Below w.heap.size w w'))
 case atStart => exact ⟨(y162),(0),(t159),(t160),(t161),(by first|rfl|(simp;done)|(simp [*];done)),H',⟨Nat.le_refl _⟩,⟨by (with_reducible repeat (first|apply ra_|apply rn_|apply Rd_));exact HO164.out⟩,⟨iq112_ HI157⟩,⟨bi_ HB (IsS112.ge HI157.out)⟩⟩
 case round =>
  clear H'
  try clear c1
  try clear p2
  try clear c4
  try clear c8
  obtain ⟨x8_1,x9_1,x158000_1,x158001_1,x158002_1,rfl,HA,HK1,HO_8,HI157,HB⟩:=hrel
  cases gk with
  | zero => exact absurd HA.out (by simp [spec_ReadHint.l0])
  | succ k1 =>
   have H:=HA.out;clear HA;simp only [spec_ReadHint.l0] at H;have HC9:=A_ H;clear H
   go_upto_region 6 with (fail)
   go_cut [39] (fun v39 wc => ∃ (kq : Nat) (x39_8 : Bool),v39 = .bool x39_8 ∧ Aside0 (spec_ReadHint.j1 kq a0 t158 x8_1 x9_1 x39_8 x158000_1 x158001_1 x158002_1 = some (r1,r2)) ∧ Aside0 (kq ≤ k1) ∧ Aside0 (Kd.R k127 127 wc w.heap.size (fun _ => True) u8 x8_1) ∧ Aside0 (IsS112 w wc gb157 x158000_1 x158001_1 x158002_1) ∧ Aside0 (Below w.heap.size w wc))
   case first =>
    have H:=HC9.out;clear HC9
    by_cases c10 : x9_1 < t158
    ·rw [if_pos c10] at H;have c10b0 : decide (x9_1 < t158) = true:=de_ c10;clear c10
     (first|rw [c10b0]|(simp only [i64_w,i32_w];rw [c10b0])|skip)
     by_cases c11 : x158002_1 = true
     ·subst c11
      rw [if_pos rfl] at H;have H':=A_ H;clear H;obtain ⟨HGz12,hgz12⟩:=HI157.out;have hcz12_0:=cellS112_0 HGz12;have hcz12_1:=cellS112_1 HGz12;have hcz12_2:=cellS112_2 HGz12;have hfz12_0:=kf_ HGz12 0;have hfz12_1:=kf_ HGz12 1;have hfz12_2:=kf_ HGz12 2;clear HGz12 hgz12;go_wp2
      go_meet
      case rel => exact ⟨_,(false),(by first|rfl|(simp;done)|(simp [*];done)),H',⟨by have:=HK1.out;first|omega|exact Nat.le_refl _⟩,⟨by (with_reducible repeat (first|apply ra_|apply rn_|apply Rd_));exact HO_8.out⟩,⟨iq112_ HI157⟩,⟨bi_ HB (IsS112.ge HI157.out)⟩⟩
     ·replace c11:=Bool.eq_false_iff.mpr c11;subst c11
      have H1 : (spec_ReadHint.j1 k1 a0 t158 x8_1 x9_1 (decide (x9_1 ≤ 60)) x158000_1 x158001_1 false) = some (r1,r2):=by rw [if_neg (show ¬ (false = true) by decide)] at H;exact H
      clear H;have H:=H1;clear H1;have H':=A_ H;clear H;obtain ⟨HGz13,hgz13⟩:=HI157.out;have hcz13_0:=cellS112_0 HGz13;have hcz13_1:=cellS112_1 HGz13;have hcz13_2:=cellS112_2 HGz13;have hfz13_0:=kf_ HGz13 0;have hfz13_1:=kf_ HGz13 1;have hfz13_2:=kf_ HGz13 2;clear HGz13 hgz13;go_wp2
      go_meet
      case rel => exact ⟨_,(decide (x9_1 ≤ 60)),(by first|rfl|(simp;done)|(simp [*];done)),H',⟨by have:=HK1.out;first|omega|exact Nat.le_refl _⟩,⟨by (with_reducible repeat (first|apply ra_|apply rn_|apply Rd_));exact HO_8.out⟩,⟨iq112_ HI157⟩,⟨bi_ HB (IsS112.ge HI157.out)⟩⟩
    ·rw [if_neg c10] at H;have c10b0 : decide (x9_1 < t158) = false:=decide_eq_false c10;clear c10
     (first|rw [c10b0]|(simp only [i64_w,i32_w];rw [c10b0])|skip)
     have H':=A_ H;clear H;go_wp2
     go_meet
     case rel => exact ⟨_,(false),(by first|rfl|(simp;done)|(simp [*];done)),H',⟨by have:=HK1.out;first|omega|exact Nat.le_refl _⟩,⟨by (with_reducible repeat (first|apply ra_|apply rn_|apply Rd_));exact HO_8.out⟩,⟨iq112_ HI157⟩,⟨bi_ HB (IsS112.ge HI157.out)⟩⟩
   case rest =>
    clear HC9
    try clear c1
    try clear p2
    try clear c4
    try clear c8
    try clear c10
    try clear c10b0
    try clear c11
    try clear hcz12_0
    try clear hcz12_1
    try clear hcz12_2
    try clear hcz13_0
    try clear hcz13_1
    try clear hcz13_2
    try clear hfz12_0
    try clear hfz12_1
    try clear hfz12_2
    try clear hfz13_0
    try clear hfz13_1
    try clear hfz13_2
    try clear p2
    obtain ⟨kq,x39_8,rfl,HA,HJ8,HO_8,HI157,HB⟩:=hcut
    cases kq with
    | zero => exact absurd HA.out (by simp [spec_ReadHint.j1])
    | succ kj8 =>
     have H:=HA.out;clear HA;simp only [spec_ReadHint.j1] at H
     by_cases c14 : x39_8 = true
     ·subst c14
      rw [if_pos rfl] at H;replace H:=ob_.mp H;obtain ⟨⟨t177,t178,t179,t180⟩,A150,H⟩:=H;(try dsimp only at H);have A15:=A_ A150;clear A150;replace H:=ob_.mp H;obtain ⟨⟨t181,t182,t183,t184⟩,A160,H⟩:=H;(try dsimp only at H);have A16:=A_ A160;clear A160;replace H:=ob_.mp H;obtain ⟨⟨t185,t186,t187,t188⟩,A170,H⟩:=H;(try dsimp only at H);have A17:=A_ A170;clear A170;replace H:=ob_.mp H;obtain ⟨⟨t189,t190,t191,t192⟩,A180,H⟩:=H;(try dsimp only at H);have A18:=A_ A180;clear A180
      by_cases c19 : x8_1.length < 3518437208883
      ·rw [if_pos c19] at H;have LMc19:=A_ c19;clear c19;obtain ⟨y193,hy193⟩ : ∃ y_ : List (S127),y_ = (x8_1 ++ [(⟨t177,t181,t185,t189⟩ : S127)]):=⟨_,rfl⟩
       replace H : (spec_ReadHint.l0 kj8 a0 t158 y193 (wrap64 (x9_1 + 1)) t190 t191 t192) = some (r1,r2):=by first|(rw [hy193];with_reducible exact H)|(have H2_:=(Option.bind_some _ _).symm.trans H;rw [hy193];with_reducible exact H2_)|(have H2_:=(Option.bind_some _ _).symm.trans H;with_reducible exact H2_)|with_reducible exact H|(rw [hy193];exact H)|exact H
       have Ny193:=A_ hy193;clear hy193;have H':=A_ H;clear H
       go_wp2_with (first|((with_reducible refine gate_dst (N:=10) rfl ?_);refine bE_ 10 #[.string (⟨#[]⟩ : ByteArray),.int .i64 0,.int .i64 0,.int .i64 0] 127 ?_;intro gb176 hg w20 hbox hb;replace HO_8:=A_ (rb_ (Kd.R_elderB (rq_ HO_8) gb176 (Nat.le_of_eq hg.symm)) hb);have BK176:=A_ (hbox);have GW176:=A_ ((by rw [hg];exact (bz_ (bi_ HB (IsS112.ge HI157.out))) : w.heap.size ≤ gb176));have GE176:=A_ ((by rw [hg];exact (bz_ (bi_ HB (IsS112.ge HI157.out))) : w.heap.size ≤ gb176));replace HB:=A_ (bs_ (bi_ HB (IsS112.ge HI157.out)) hb);have NB157_176:=A_ ((by rw [hg];exact nl_ (IsS112.lt (show IsS112 w _ gb157 x158000_1 x158001_1 x158002_1 from iq112_ HI157)) : gb157 ≠ gb176));have NB176_157:=A_ ((by rw [hg];exact ng_ (IsS112.lt (show IsS112 w _ gb157 x158000_1 x158001_1 x158002_1 from iq112_ HI157)) : gb176 ≠ gb157));replace HI157:=A_ (IsS112.below (iq112_ HI157) hb);clear hb hbox hg;have hnb21:=NB176_157.out;have hnc21:=NB157_176.out;obtain ⟨hcz22_0,hcz22_1,hcz22_2,hcz22_3,hfz22_0,hfz22_1,hfz22_2,hfz22_3⟩:=k4f_ BK176)|((with_reducible refine gate_callee (f:=86) rfl ?_);refine gL_ (some 44) Try.func86 #[.pointer (some ⟨gb157,0,none⟩)] ?_;(with_reducible refine (spec_l05ReadShort.calls kj8 gb157 x158000_1 x158001_1 x158002_1 t177 t178 t179 t180 w _ ?side1 ?side2 A15.out).mono ?_);(case side1 => exact iq112_ HI157);(case side2 => exact bi_ HB (IsS112.ge HI157.out));rintro e w23 ⟨rfl,hi,hb,hk⟩;refine ⟨_,rfl,?_⟩;replace HO_8:=A_ (rm_ (Kd.R_keep (IsS112.apart (show IsS112 w _ gb157 x158000_1 x158001_1 x158002_1 from iq112_ HI157) (by (with_reducible repeat (first|apply ra_|apply rn_|apply Rd_));exact (rm_ (rf_ (p:=⟨gb176,3,none⟩) (rf_ (p:=⟨gb176,2,none⟩) (rf_ (p:=⟨gb176,1,none⟩) (rf_ (p:=⟨gb176,0,none⟩) (rm_ HO_8.out (fun k_ hk => (⟨hk,hk.2⟩ : _ ∧ k_ ≠ gb176))) (fun _ hk => hk.2) (.string (⟨#[]⟩ : ByteArray))) (fun _ hk => hk.2) (.int .i64 0)) (fun _ hk => hk.2) (.int .i64 0)) (fun _ hk => hk.2) (.int .i64 0)) (fun _ h_ => h_.1))) (by decide)) hk (fun _ h => h.2)) (fun _ h => h.1));replace BK176:=A_ (KeepBut.blk hk (g':=gb176) (o:=.cells #[.string (⟨#[]⟩ : ByteArray),.int .i64 0,.int .i64 0,.int .i64 0] 127 (0,0)) (kz_ BK176) NB176_157.out (by simp));replace HB:=A_ (hb);replace HI157:=A_ (hi);(try clear hb);(try clear hk);(try clear hi);obtain ⟨hcz24_0,hcz24_1,hcz24_2,hcz24_3,hfz24_0,hfz24_1,hfz24_2,hfz24_3⟩:=k4f_ BK176)|((with_reducible refine gate_callee (f:=85) rfl ?_);refine gL_ (some 47) Try.func85 #[.pointer (some ⟨gb157,0,none⟩)] ?_;(with_reducible refine (spec_l05Var.calls kj8 gb157 t178 t179 t180 t181 t182 t183 t184 w _ ?side1 ?side2 A16.out).mono ?_);(case side1 => exact iq112_ HI157);(case side2 => exact bi_ HB (IsS112.ge HI157.out));rintro e w25 ⟨rfl,hi,hb,hk⟩;refine ⟨_,rfl,?_⟩;replace HO_8:=A_ (rm_ (Kd.R_keep (IsS112.apart (show IsS112 w _ gb157 t178 t179 t180 from iq112_ HI157) (by (with_reducible repeat (first|apply ra_|apply rn_|apply Rd_));exact (rm_ (rf_ (p:=⟨gb176,0,none⟩) (rm_ HO_8.out (fun k_ hk => (⟨hk,hk.2⟩ : _ ∧ k_ ≠ gb176))) (fun _ hk => hk.2) (.string t177)) (fun _ h_ => h_.1))) (by decide)) hk (fun _ h => h.2)) (fun _ h => h.1));replace BK176:=A_ (KeepBut.blk hk (g':=gb176) (o:=.cells #[.string t177,.int .i64 0,.int .i64 0,.int .i64 0] 127 (0,0)) (kz_ BK176) NB176_157.out (by simp));replace HB:=A_ (hb);replace HI157:=A_ (hi);(try clear hb);(try clear hk);(try clear hi);obtain ⟨hcz26_0,hcz26_1,hcz26_2,hcz26_3,hfz26_0,hfz26_1,hfz26_2,hfz26_3⟩:=k4f_ BK176)|((with_reducible refine gate_callee (f:=85) rfl ?_);refine gL_ (some 50) Try.func85 #[.pointer (some ⟨gb157,0,none⟩)] ?_;(with_reducible refine (spec_l05Var.calls kj8 gb157 t182 t183 t184 t185 t186 t187 t188 w _ ?side1 ?side2 A17.out).mono ?_);(case side1 => exact iq112_ HI157);(case side2 => exact bi_ HB (IsS112.ge HI157.out));rintro e w27 ⟨rfl,hi,hb,hk⟩;refine ⟨_,rfl,?_⟩;replace HO_8:=A_ (rm_ (Kd.R_keep (IsS112.apart (show IsS112 w _ gb157 t182 t183 t184 from iq112_ HI157) (by (with_reducible repeat (first|apply ra_|apply rn_|apply Rd_));exact (rm_ (rf_ (p:=⟨gb176,1,none⟩) (rm_ HO_8.out (fun k_ hk => (⟨hk,hk.2⟩ : _ ∧ k_ ≠ gb176))) (fun _ hk => hk.2) (.int .i64 t181)) (fun _ h_ => h_.1))) (by decide)) hk (fun _ h => h.2)) (fun _ h => h.1));replace BK176:=A_ (KeepBut.blk hk (g':=gb176) (o:=.cells #[.string t177,.int .i64 t181,.int .i64 0,.int .i64 0] 127 (0,0)) (kz_ BK176) NB176_157.out (by simp));replace HB:=A_ (hb);replace HI157:=A_ (hi);(try clear hb);(try clear hk);(try clear hi);obtain ⟨hcz28_0,hcz28_1,hcz28_2,hcz28_3,hfz28_0,hfz28_1,hfz28_2,hfz28_3⟩:=k4f_ BK176)|((with_reducible refine gate_callee (f:=85) rfl ?_);refine gL_ (some 53) Try.func85 #[.pointer (some ⟨gb157,0,none⟩)] ?_;(with_reducible refine (spec_l05Var.calls kj8 gb157 t186 t187 t188 t189 t190 t191 t192 w _ ?side1 ?side2 A18.out).mono ?_);(case side1 => exact iq112_ HI157);(case side2 => exact bi_ HB (IsS112.ge HI157.out));rintro e w29 ⟨rfl,hi,hb,hk⟩;refine ⟨_,rfl,?_⟩;replace HO_8:=A_ (rm_ (Kd.R_keep (IsS112.apart (show IsS112 w _ gb157 t186 t187 t188 from iq112_ HI157) (by (with_reducible repeat (first|apply ra_|apply rn_|apply Rd_));exact (rm_ (rf_ (p:=⟨gb176,2,none⟩) (rm_ HO_8.out (fun k_ hk => (⟨hk,hk.2⟩ : _ ∧ k_ ≠ gb176))) (fun _ hk => hk.2) (.int .i64 t185)) (fun _ h_ => h_.1))) (by decide)) hk (fun _ h => h.2)) (fun _ h => h.1));replace BK176:=A_ (KeepBut.blk hk (g':=gb176) (o:=.cells #[.string t177,.int .i64 t181,.int .i64 t185,.int .i64 0] 127 (0,0)) (kz_ BK176) NB176_157.out (by simp));replace HB:=A_ (hb);replace HI157:=A_ (hi);(try clear hb);(try clear hk);(try clear hi);obtain ⟨hcz30_0,hcz30_1,hcz30_2,hcz30_3,hfz30_0,hfz30_1,hfz30_2,hfz30_3⟩:=k4f_ BK176)|((with_reducible refine gate_builtin (b:=.append) (xs:=#[.tmp 55,.tmp 57]) rfl ?_);at_builtin;refine Kd.R_append k127 (w0:=w) w.heap.size rfl (.tmp 55) (.tmp 57) 66 127 (.agg #[(.string ⟨#[]⟩),(.int .i64 0),(.int .i64 0),(.int .i64 0)]) 40 rfl Try.underlying66 info127 rfl (by decide) (by omega) u8 x8_1 (⟨t177,t181,t185,t189⟩ : S127) [.string t177,.int .i64 t181,.int .i64 t185,.int .i64 t189] (fun k_ => k_ ≠ gb176) (fun _ => False) rfl (by first|(go_simp;done)|(go_simp;rfl)) ?aP (fun _ hk => hk.elim) ?aF ?aO ?aB ?aS ?aL ?_;(case aP => exact k127_mkM _ _ _ (⟨t177,t181,t185,t189⟩ : S127));(case aB => exact (bi_ HB (IsS112.ge HI157.out)));(case aF => exact (fun k_ hk => Kd.freshB (g:=gb176) (o:=.cells #[.string t177,.int .i64 t181,.int .i64 t185,.int .i64 t189] 127 (0,0)) (kz_ BK176) k_ hk));(case aO => exact (by (with_reducible repeat (first|apply ra_|apply rn_|apply Rd_));exact rm_ (rf_ (p:=⟨gb176,3,none⟩) (rm_ HO_8.out (fun k_ hk => (⟨hk,hk.2⟩ : _ ∧ k_ ≠ gb176))) (fun _ hk => hk.2) (.int .i64 t189)) (fun _ hk => hk.1.2)));(case aS => exact (bz_ (bi_ HB (IsS112.ge HI157.out))));(case aL => have:=LMc19.out;omega);intro v194 w31 ho hb hg hat;rw [← Ny193.out] at ho;replace HI157:=A_ (IsS112.grown (IsS112.far HI157.out NB157_176.out _) hg (IsS112.own_ne HI157.out HO_8.out (by decide)));replace BK176:=A_ (kg_ (g:=gb176) (o:=.cells #[.string t177,.int .i64 t181,.int .i64 t185,.int .i64 t189] 127 (0,0)) (kz_ BK176) hg (Kd.R_away HO_8.out (fun _ hk => hk.2)));replace HB:=A_ (hb);have HO195:=A_ (ho);clear HO_8;clear ho hb hg hat))
       go_roundg kj8
       case measure => have:=HK1.out;have:=HJ8.out;omega
       case rel => exact ⟨(y193),(wrap64 (x9_1 + 1)),(t190),(t191),(t192),(by first|rfl|(simp;done)|(simp [*];done)),H',⟨by have:=HK1.out;have:=HJ8.out;omega⟩,⟨by (with_reducible repeat (first|apply ra_|apply rn_|apply Rd_));exact rm_ HO195.out (fun _ hk => trivial)⟩,⟨iq112_ HI157⟩,⟨bi_ HB (IsS112.ge HI157.out)⟩⟩
      ·rw [if_neg c19] at H;exact absurd H (by simp)
     ·replace c14:=Bool.eq_false_iff.mpr c14;subst c14
      have H1 : ((spec_HintText.f kj8 x8_1).bind fun bt165 => (if x158002_1 = true then (some ((([] : List (S127))),false)) else (if bt165.2 = true then (if bt165.1.toList = a0.toList then (some (x8_1,true)) else (some ((([] : List (S127))),false))) else (some ((([] : List (S127))),false))))) = some (r1,r2):=by rw [if_neg (show ¬ (false = true) by decide)] at H;exact H
      clear H;have H:=H1;clear H1;replace H:=ob_.mp H;obtain ⟨⟨t165,t166⟩,A320,H⟩:=H;(try dsimp only at H);have A32:=A_ A320;clear A320
      by_cases c33 : x158002_1 = true
      ·subst c33
       rw [if_pos rfl] at H;obtain ⟨y167,hy167⟩ : ∃ y_ : List (S127),y_ = (([] : List (S127))):=⟨_,rfl⟩
       replace H : (some (y167,false)) = some (r1,r2):=by first|(rw [hy167];with_reducible exact H)|(have H2_:=(Option.bind_some _ _).symm.trans H;rw [hy167];with_reducible exact H2_)|(have H2_:=(Option.bind_some _ _).symm.trans H;with_reducible exact H2_)|with_reducible exact H|(rw [hy167];exact H)|exact H
       have Ny167:=A_ hy167;clear hy167;simp only [Option.some.injEq,Prod.mk.injEq] at H;obtain ⟨rfl,rfl⟩:=H;obtain ⟨Ao34,co34,eo34⟩:=Kd.R_slice HO_8.out;subst eo34
       go_wp2_with (first|((with_reducible refine gate_callee (f:=108) rfl ?_);refine gL_ (some 61) Try.func108 #[.slice Ao34 x8_1.length co34] ?_;(with_reducible refine (spec_HintText.calls kj8 _ _ x8_1 t165 t166 _ ?side1 ?side2 A32.out).mono ?_);(case side1 => repeat (first|exact (Kd.R_reads' HO_8.out).2.2|(with_reducible refine Kd.C_alloc ?_ _)|(with_reducible refine Kd.C_drewN ?_ _)|(with_reducible refine Kd.C_drew ?_)));(case side2 => exact (Kd.R_reads' HO_8.out).2.1);rintro e w35 ⟨rfl,hb⟩;refine ⟨_,rfl,?_⟩;replace HO_8:=rB_ HO_8 hb;replace HB:=A_ (bs_ (bi_ HB (IsS112.ge HI157.out)) hb);replace HI157:=A_ (IsS112.below (iq112_ HI157) hb);(try clear hb);obtain ⟨HGz36,hgz36⟩:=HI157.out;have hcz36_0:=cellS112_0 HGz36;have hcz36_1:=cellS112_1 HGz36;have hcz36_2:=cellS112_2 HGz36;have hfz36_0:=kf_ HGz36 0;have hfz36_1:=kf_ HGz36 1;have hfz36_2:=kf_ HGz36 2;clear HGz36 hgz36)|((with_reducible refine gate_dst (N:=77) rfl ?_);refine rX_ (d:=k127) (e:=127) (xs:=([] : List (S127))) (inner:=[]) (ok:=fun _ => True) (okp:=fun _ => True) 77 (Reps.none _ _) ?_;intro v168 w37 ho38 hb hg_ hnew_;clear hg_ hnew_;(first|rw [← Ny167.out] at ho38|(simp only [Int.reduceToNat] at ho38;rw [← Ny167.out] at ho38));have HO169:=A_ (rw_ (Kd.R_new' ho38 (Kd.R_lt (rq_ HO_8))) (bz_ (bi_ HB (IsS112.ge HI157.out))));replace HO_8:=A_ (Kd.R_elder' (rq_ HO_8) (Kd.R_base ho38) hb);replace HB:=A_ (bs_ (bi_ HB (IsS112.ge HI157.out)) hb);replace HI157:=A_ (IsS112.below (iq112_ HI157) hb);clear hb ho38))
       go_ret2;exact ⟨_,by first|rfl|(simp [*,errW_none,errW_some] <;> rfl),by (with_reducible repeat (first|apply ra_|apply rn_|apply Rd_));exact rm_ HO169.out (fun _ hk => trivial),bi_ HB (IsS112.ge HI157.out)⟩
      ·replace c33:=Bool.eq_false_iff.mpr c33;subst c33
       have H1 : (if t166 = true then (if t165.toList = a0.toList then (some (x8_1,true)) else (some ((([] : List (S127))),false))) else (some ((([] : List (S127))),false))) = some (r1,r2):=by rw [if_neg (show ¬ (false = true) by decide)] at H;exact H
       clear H;have H:=H1;clear H1
       by_cases c39 : t166 = true
       ·subst c39
        rw [if_pos rfl] at H
        by_cases c40 : t165.toList = a0.toList
        ·rw [if_pos c40] at H;have c40b0 : (t165.toList == a0.toList) = true:=beq_iff_eq.mpr c40;have c40b1 : (t165.toList != a0.toList) = false:=bne_eq_false_iff_eq.mpr c40;clear c40;simp only [Option.some.injEq,Prod.mk.injEq] at H;obtain ⟨rfl,rfl⟩:=H;obtain ⟨Ao41,co41,eo41⟩:=Kd.R_slice HO_8.out;subst eo41
         go_wp2_with (first|((with_reducible refine gate_callee (f:=108) rfl ?_);refine gL_ (some 61) Try.func108 #[.slice Ao41 x8_1.length co41] ?_;(with_reducible refine (spec_HintText.calls kj8 _ _ x8_1 t165 true _ ?side1 ?side2 A32.out).mono ?_);(case side1 => repeat (first|exact (Kd.R_reads' HO_8.out).2.2|(with_reducible refine Kd.C_alloc ?_ _)|(with_reducible refine Kd.C_drewN ?_ _)|(with_reducible refine Kd.C_drew ?_)));(case side2 => exact (Kd.R_reads' HO_8.out).2.1);rintro e w42 ⟨rfl,hb⟩;refine ⟨_,rfl,?_⟩;replace HO_8:=rB_ HO_8 hb;replace HB:=A_ (bs_ (bi_ HB (IsS112.ge HI157.out)) hb);replace HI157:=A_ (IsS112.below (iq112_ HI157) hb);(try clear hb);obtain ⟨HGz43,hgz43⟩:=HI157.out;have hcz43_0:=cellS112_0 HGz43;have hcz43_1:=cellS112_1 HGz43;have hcz43_2:=cellS112_2 HGz43;have hfz43_0:=kf_ HGz43 0;have hfz43_1:=kf_ HGz43 1;have hfz43_2:=kf_ HGz43 2;clear HGz43 hgz43))
         go_ret2;exact ⟨_,by first|rfl|(simp [*,errW_none,errW_some] <;> rfl),by (with_reducible repeat (first|apply ra_|apply rn_|apply Rd_));exact HO_8.out,bi_ HB (IsS112.ge HI157.out)⟩
        ·rw [if_neg c40] at H;have c40b0 : (t165.toList == a0.toList) = false:=beq_eq_false_iff_ne.mpr c40;have c40b1 : (t165.toList != a0.toList) = true:=bne_iff_ne.mpr c40;obtain ⟨y170,hy170⟩ : ∃ y_ : List (S127),y_ = (([] : List (S127))):=⟨_,rfl⟩
         replace H : (some (y170,false)) = some (r1,r2):=by first|(rw [hy170];with_reducible exact H)|(have H2_:=(Option.bind_some _ _).symm.trans H;rw [hy170];with_reducible exact H2_)|(have H2_:=(Option.bind_some _ _).symm.trans H;with_reducible exact H2_)|with_reducible exact H|(rw [hy170];exact H)|exact H
         have Ny170:=A_ hy170;clear hy170;simp only [Option.some.injEq,Prod.mk.injEq] at H;obtain ⟨rfl,rfl⟩:=H;obtain ⟨Ao44,co44,eo44⟩:=Kd.R_slice HO_8.out;subst eo44
         go_wp2_with (first|((with_reducible refine gate_callee (f:=108) rfl ?_);refine gL_ (some 61) Try.func108 #[.slice Ao44 x8_1.length co44] ?_;(with_reducible refine (spec_HintText.calls kj8 _ _ x8_1 t165 true _ ?side1 ?side2 A32.out).mono ?_);(case side1 => repeat (first|exact (Kd.R_reads' HO_8.out).2.2|(with_reducible refine Kd.C_alloc ?_ _)|(with_reducible refine Kd.C_drewN ?_ _)|(with_reducible refine Kd.C_drew ?_)));(case side2 => exact (Kd.R_reads' HO_8.out).2.1);rintro e w45 ⟨rfl,hb⟩;refine ⟨_,rfl,?_⟩;replace HO_8:=rB_ HO_8 hb;replace HB:=A_ (bs_ (bi_ HB (IsS112.ge HI157.out)) hb);replace HI157:=A_ (IsS112.below (iq112_ HI157) hb);(try clear hb);obtain ⟨HGz46,hgz46⟩:=HI157.out;have hcz46_0:=cellS112_0 HGz46;have hcz46_1:=cellS112_1 HGz46;have hcz46_2:=cellS112_2 HGz46;have hfz46_0:=kf_ HGz46 0;have hfz46_1:=kf_ HGz46 1;have hfz46_2:=kf_ HGz46 2;clear HGz46 hgz46)|((with_reducible refine gate_dst (N:=77) rfl ?_);refine rX_ (d:=k127) (e:=127) (xs:=([] : List (S127))) (inner:=[]) (ok:=fun _ => True) (okp:=fun _ => True) 77 (Reps.none _ _) ?_;intro v171 w47 ho48 hb hg_ hnew_;clear hg_ hnew_;(first|rw [← Ny170.out] at ho48|(simp only [Int.reduceToNat] at ho48;rw [← Ny170.out] at ho48));have HO172:=A_ (rw_ (Kd.R_new' ho48 (Kd.R_lt (rq_ HO_8))) (bz_ (bi_ HB (IsS112.ge HI157.out))));replace HO_8:=A_ (Kd.R_elder' (rq_ HO_8) (Kd.R_base ho48) hb);replace HB:=A_ (bs_ (bi_ HB (IsS112.ge HI157.out)) hb);replace HI157:=A_ (IsS112.below (iq112_ HI157) hb);clear hb ho48))
         go_ret2;exact ⟨_,by first|rfl|(simp [*,errW_none,errW_some] <;> rfl),by (with_reducible repeat (first|apply ra_|apply rn_|apply Rd_));exact rm_ HO172.out (fun _ hk => trivial),bi_ HB (IsS112.ge HI157.out)⟩
       ·replace c39:=Bool.eq_false_iff.mpr c39;subst c39
        have H1 : (some ((([] : List (S127))),false)) = some (r1,r2):=by rw [if_neg (show ¬ (false = true) by decide)] at H;exact H
        clear H;have H:=H1;clear H1;obtain ⟨y173,hy173⟩ : ∃ y_ : List (S127),y_ = (([] : List (S127))):=⟨_,rfl⟩
        replace H : (some (y173,false)) = some (r1,r2):=by first|(rw [hy173];with_reducible exact H)|(have H2_:=(Option.bind_some _ _).symm.trans H;rw [hy173];with_reducible exact H2_)|(have H2_:=(Option.bind_some _ _).symm.trans H;with_reducible exact H2_)|with_reducible exact H|(rw [hy173];exact H)|exact H
        have Ny173:=A_ hy173;clear hy173;simp only [Option.some.injEq,Prod.mk.injEq] at H;obtain ⟨rfl,rfl⟩:=H;obtain ⟨Ao49,co49,eo49⟩:=Kd.R_slice HO_8.out;subst eo49
        go_wp2_with (first|((with_reducible refine gate_callee (f:=108) rfl ?_);refine gL_ (some 61) Try.func108 #[.slice Ao49 x8_1.length co49] ?_;(with_reducible refine (spec_HintText.calls kj8 _ _ x8_1 t165 false _ ?side1 ?side2 A32.out).mono ?_);(case side1 => repeat (first|exact (Kd.R_reads' HO_8.out).2.2|(with_reducible refine Kd.C_alloc ?_ _)|(with_reducible refine Kd.C_drewN ?_ _)|(with_reducible refine Kd.C_drew ?_)));(case side2 => exact (Kd.R_reads' HO_8.out).2.1);rintro e w50 ⟨rfl,hb⟩;refine ⟨_,rfl,?_⟩;replace HO_8:=rB_ HO_8 hb;replace HB:=A_ (bs_ (bi_ HB (IsS112.ge HI157.out)) hb);replace HI157:=A_ (IsS112.below (iq112_ HI157) hb);(try clear hb);obtain ⟨HGz51,hgz51⟩:=HI157.out;have hcz51_0:=cellS112_0 HGz51;have hcz51_1:=cellS112_1 HGz51;have hcz51_2:=cellS112_2 HGz51;have hfz51_0:=kf_ HGz51 0;have hfz51_1:=kf_ HGz51 1;have hfz51_2:=kf_ HGz51 2;clear HGz51 hgz51)|((with_reducible refine gate_dst (N:=77) rfl ?_);refine rX_ (d:=k127) (e:=127) (xs:=([] : List (S127))) (inner:=[]) (ok:=fun _ => True) (okp:=fun _ => True) 77 (Reps.none _ _) ?_;intro v174 w52 ho53 hb hg_ hnew_;clear hg_ hnew_;(first|rw [← Ny173.out] at ho53|(simp only [Int.reduceToNat] at ho53;rw [← Ny173.out] at ho53));have HO175:=A_ (rw_ (Kd.R_new' ho53 (Kd.R_lt (rq_ HO_8))) (bz_ (bi_ HB (IsS112.ge HI157.out))));replace HO_8:=A_ (Kd.R_elder' (rq_ HO_8) (Kd.R_base ho53) hb);replace HB:=A_ (bs_ (bi_ HB (IsS112.ge HI157.out)) hb);replace HI157:=A_ (IsS112.below (iq112_ HI157) hb);clear hb ho53))
        go_ret2;exact ⟨_,by first|rfl|(simp [*,errW_none,errW_some] <;> rfl),by (with_reducible repeat (first|apply ra_|apply rn_|apply Rd_));exact rm_ HO175.out (fun _ hk => trivial),bi_ HB (IsS112.ge HI157.out)⟩
def IsS107 (w0 W : World) (g : Nat) (f0 : ByteArray) (f1 : Int) (f2 : Bool) : Prop := W.heap[g]? = some (.cells #[.string f0, .int .i64 f1, .bool f2] 107 (0, 0)) ∧ w0.heap.size ≤ g
theorem IsS107.grown {w0 W : World} {g : Nat} {f0 : ByteArray} {f1 : Int} {f2 : Bool} {W1 : World} {row : Option Nat} (h : IsS107 w0 W g f0 f1 f2) (hw : W.grownBy W1 row) (hne : some g ≠ row) : IsS107 w0 W1 g f0 f1 f2 := by
 obtain ⟨hb,hg⟩:=h;exact ⟨kg_ hb hw hne,hg⟩
theorem IsS107.own_neN {w0 W : World} {g : Nat} {f0 : ByteArray} {f1 : Int} {f2 : Bool} {α : Type} {d : Kd α} {e : Nat} {base : Nat} {ok : Nat → Prop} {v : Value} {xs : List α} (h : IsS107 w0 W g f0 f1 f2) (ho : Kd.N d e W base ok v xs) (ht : e ≠ 107) : some g ≠ v.ownBlock := by
 obtain ⟨hb,hg⟩:=h;exact Kd.N_ne ho hb ht
theorem IsS107.fresh {w0 W : World} {g : Nat} {f0 : ByteArray} {f1 : Int} {f2 : Bool} (h : IsS107 w0 W g f0 f1 f2) : ∀ k, W.heap.size ≤ k → k ≠ g := by
 obtain ⟨hb,hg⟩:=h;exact Kd.freshB hb
theorem IsS107.kept {w0 W : World} {g : Nat} {f0 : ByteArray} {f1 : Int} {f2 : Bool} {W1 : World} {S : Nat → Prop} (h : IsS107 w0 W g f0 f1 f2) (hk : Kept W W1 S) (hne : ¬ S g) : IsS107 w0 W1 g f0 f1 f2 := by
 obtain ⟨hb,hg⟩:=h;exact ⟨blk_kept hb hk hne,hg⟩
theorem IsS107.below {w0 W : World} {g : Nat} {f0 : ByteArray} {f1 : Int} {f2 : Bool} {W1 : World} (h : IsS107 w0 W g f0 f1 f2) (hw : Below W.heap.size W W1) : IsS107 w0 W1 g f0 f1 f2 := h.grown (grown_of_below hw none) (by simp)
theorem IsS107.alloc {w0 W : World} {g : Nat} {f0 : ByteArray} {f1 : Int} {f2 : Bool} (h : IsS107 w0 W g f0 f1 f2) (o : Obj) : IsS107 w0 (W.alloc o) g f0 f1 f2 := h.below (below_alloc (Below.refl _ _) o)
theorem IsS107.drewN {w0 W : World} {g : Nat} {f0 : ByteArray} {f1 : Int} {f2 : Bool} (h : IsS107 w0 W g f0 f1 f2) (m : Nat) : IsS107 w0 (W.drewN m) g f0 f1 f2 := h
theorem IsS107.drew {w0 W : World} {g : Nat} {f0 : ByteArray} {f1 : Int} {f2 : Bool} (h : IsS107 w0 W g f0 f1 f2) : IsS107 w0 W.drew g f0 f1 f2 := h
theorem IsS107.at_ {w0 W : World} {g : Nat} {f0 : ByteArray} {f1 : Int} {f2 : Bool} {w' : World} {m : Nat} (hq : W.drewN m = w') (h : IsS107 w0 W g f0 f1 f2) : IsS107 w0 w' g f0 f1 f2 := by subst hq; exact IsS107.drewN h m
theorem IsS107.apart {w0 W : World} {g : Nat} {f0 : ByteArray} {f1 : Int} {f2 : Bool} {α : Type} {d : Kd α} {e : Nat} {base : Nat} {ok : Nat → Prop} {v : Value} {xs : List α} (h : IsS107 w0 W g f0 f1 f2) (ho : d.R e W base ok v xs) (ht : ∀ q, q ∈ e :: d.E → q ≠ 107) : d.R e W base (fun k => ok k ∧ k ≠ g) v xs := by
 obtain ⟨hb,hg⟩:=h;exact Kd.R_types ho hb ht
theorem IsS107.own_ne {w0 W : World} {g : Nat} {f0 : ByteArray} {f1 : Int} {f2 : Bool} {α : Type} {d : Kd α} {e : Nat} {base : Nat} {ok : Nat → Prop} {v : Value} {xs : List α} (h : IsS107 w0 W g f0 f1 f2) (ho : d.R e W base ok v xs) (ht : e ≠ 107) : some g ≠ v.ownBlock := by
 obtain ⟨hb,hg⟩:=h;exact re_ ho hb ht
theorem IsS107.apartQ {w0 W : World} {g : Nat} {f0 : ByteArray} {f1 : Int} {f2 : Bool} {α : Type} {d : Kd α} {e : Nat} {base : Nat} {ok : Nat → Prop} {v : Value} {xs : List α} (h : IsS107 w0 W g f0 f1 f2) (ho : d.Q e W base ok v xs) (ht : ∀ q, q ∈ e :: d.E → q ≠ 107) : d.Q e W base (fun k => ok k ∧ k ≠ g) v xs := by
 obtain ⟨hb,hg⟩:=h;exact Kd.Q_types ho hb ht
theorem IsS107.own_neQ {w0 W : World} {g : Nat} {f0 : ByteArray} {f1 : Int} {f2 : Bool} {α : Type} {d : Kd α} {e : Nat} {base : Nat} {ok : Nat → Prop} {v : Value} {xs : List α} (h : IsS107 w0 W g f0 f1 f2) (ho : d.Q e W base ok v xs) (ht : e ≠ 107) : some g ≠ v.ownBlock := by
 obtain ⟨hb,hg⟩:=h;exact Kd.Q_ne ho hb ht
theorem IsS107.apartS {w0 W : World} {g : Nat} {f0 : ByteArray} {f1 : Int} {f2 : Bool} {α : Type} {d : Kd α} {e : Nat} {base : Nat} {ok : Nat → Prop} {v : Value} {xs : List α} (h : IsS107 w0 W g f0 f1 f2) (ho : d.S e W base ok v xs) (ht : ∀ q, q ∈ e :: d.E → q ≠ 107) : d.S e W base (fun k => ok k ∧ k ≠ g) v xs := by
 obtain ⟨hb,hg⟩:=h;exact Kd.S_types ho hb ht
theorem IsS107.own_neS {w0 W : World} {g : Nat} {f0 : ByteArray} {f1 : Int} {f2 : Bool} {α : Type} {d : Kd α} {e : Nat} {base : Nat} {ok : Nat → Prop} {v : Value} {xs : List α} (h : IsS107 w0 W g f0 f1 f2) (ho : d.S e W base ok v xs) (ht : e ≠ 107) : some g ≠ v.ownBlock := by
 obtain ⟨hb,hg⟩:=h;exact Kd.S_ne ho hb ht
theorem IsS107.lt {w0 W : World} {g : Nat} {f0 : ByteArray} {f1 : Int} {f2 : Bool} (h : IsS107 w0 W g f0 f1 f2) : g < W.heap.size := by
 obtain ⟨hb,hg⟩:=h;exact kl_ hb
theorem IsS107.ge {w0 W : World} {g : Nat} {f0 : ByteArray} {f1 : Int} {f2 : Bool} (h : IsS107 w0 W g f0 f1 f2) : w0.heap.size ≤ g := by
 obtain ⟨hb,hg⟩:=h;exact hg
theorem IsS107.ne_blk {w0 W : World} {g : Nat} {f0 : ByteArray} {f1 : Int} {f2 : Bool} {a : Nat} {cs : Array Value} {t : TypeId} {fr : Nat × Nat} (h : IsS107 w0 W g f0 f1 f2) (hb2 : W.heap[a]? = some (.cells cs t fr)) (ht : t ≠ 107) : g ≠ a := by
 obtain ⟨hb,hg⟩:=h;rintro rfl;rw [hb] at hb2
 injection hb2 with hb2
 injection hb2 with _ ht2
 exact ht ht2.symm
theorem IsS107.far {w0 W : World} {g : Nat} {f0 : ByteArray} {f1 : Int} {f2 : Bool} {p : Addr} (h : IsS107 w0 W g f0 f1 f2) (hne : g ≠ p.block) (u : Value) : IsS107 w0 (W.setCell p u) g f0 f1 f2 := by
 obtain ⟨hb,hg⟩:=h;exact ⟨kr_ hb hne u,hg⟩
theorem cellS107_0 {W : World} {g : Nat} {f0 : ByteArray} {f1 : Int} {f2 : Bool} (h : W.heap[g]? = some (.cells #[.string f0, .int .i64 f1, .bool f2] 107 (0, 0))) : W.cell? ⟨g, 0, none⟩ = some (.string f0) := (blk_cell h 0).trans rfl
theorem IsS107.set_0 {w0 W : World} {g : Nat} {f0 : ByteArray} {f1 : Int} {f2 : Bool} (h : IsS107 w0 W g f0 f1 f2) (x : ByteArray) : IsS107 w0 (W.setCell ⟨g, 0, none⟩ (.string x)) g x f1 f2 := by
 obtain ⟨hb,hg⟩:=h;exact ⟨by simpa using blk_set hb 0 (.string x),hg⟩
theorem cellS107_1 {W : World} {g : Nat} {f0 : ByteArray} {f1 : Int} {f2 : Bool} (h : W.heap[g]? = some (.cells #[.string f0, .int .i64 f1, .bool f2] 107 (0, 0))) : W.cell? ⟨g, 1, none⟩ = some (.int .i64 f1) := (blk_cell h 1).trans rfl
theorem IsS107.set_1 {w0 W : World} {g : Nat} {f0 : ByteArray} {f1 : Int} {f2 : Bool} (h : IsS107 w0 W g f0 f1 f2) (x : Int) : IsS107 w0 (W.setCell ⟨g, 1, none⟩ (.int .i64 x)) g f0 x f2 := by
 obtain ⟨hb,hg⟩:=h;exact ⟨by simpa using blk_set hb 1 (.int .i64 x),hg⟩
theorem cellS107_2 {W : World} {g : Nat} {f0 : ByteArray} {f1 : Int} {f2 : Bool} (h : W.heap[g]? = some (.cells #[.string f0, .int .i64 f1, .bool f2] 107 (0, 0))) : W.cell? ⟨g, 2, none⟩ = some (.bool f2) := (blk_cell h 2).trans rfl
theorem IsS107.set_2 {w0 W : World} {g : Nat} {f0 : ByteArray} {f1 : Int} {f2 : Bool} (h : IsS107 w0 W g f0 f1 f2) (x : Bool) : IsS107 w0 (W.setCell ⟨g, 2, none⟩ (.bool x)) g f0 f1 x := by
 obtain ⟨hb,hg⟩:=h;exact ⟨by simpa using blk_set hb 2 (.bool x),hg⟩
theorem IsS107.new (w0 W : World) (f0 : ByteArray) (f1 : Int) (f2 : Bool) (hB : Below w0.heap.size w0 W) : IsS107 w0 (W.alloc (.cells #[.string f0, .int .i64 f1, .bool f2] 107)) W.heap.size f0 f1 f2 := ⟨by simpa using heap_alloc_new W _, hB.size⟩
theorem iq107_ {p q : Prop} (B : Aside0 q) (h : q → p := by intro h_;repeat (first|(with_reducible first|exact h_|apply IsS107.alloc|apply IsS107.drewN|apply IsS107.drew|apply IsS107.set_0|apply IsS107.set_1|apply IsS107.set_2|refine IsS107.far ?_ (Aside0.out (by assumption)) _)|exact h_)) : p := h B.out
def impl_reader_done.f (s0_0 : ByteArray) (s0_1 : Int) (s0_2 : Bool) : Option (Bool × ByteArray × Int × Bool) := if s0_2 = true then (some (false, s0_0, s0_1, s0_2)) else (some ((s0_1 == (s0_0.size : Int)), s0_0, s0_1, s0_2))
set_option maxHeartbeats 8000000 in
set_option maxRecDepth 100000 in
theorem impl_reader_done.calls (g : Nat) (s0_0 : ByteArray) (s0_1 : Int) (s0_2 : Bool) (r1 : Bool) (r2 : ByteArray) (r3 : Int) (r4 : Bool) (w0 w : World) (hI : IsS107 w0 w g s0_0 s0_1 s0_2) (hB : Below w0.heap.size w0 w) (h : impl_reader_done.f s0_0 s0_1 s0_2 = some (r1, r2, r3, r4)) :
  Calls Try.prog 83 #[.pointer (some ⟨g,0,none⟩)] w fun e w' => e = .returned (.bool r1) ∧ IsS107 w0 w' g r2 r3 r4 ∧ Below w0.heap.size w0 w' ∧ KeepBut w w' g none:=by
 have HI0:=A_ hI;have HK:=A_ (KeepBut.refl w g none);have HL:=A_ hB.size;clear hI;have HW0:=A_ hB.size;have HB:=A_ hB;clear hB;unfold impl_reader_done.f at h;have H:=h;clear h
 by_cases c2 : s0_2 = true
 ·subst c2
  rw [if_pos rfl] at H;simp only [Option.some.injEq,Prod.mk.injEq] at H;obtain ⟨rfl,rfl,rfl,rfl⟩:=H;obtain ⟨HGz3,hgz3⟩:=HI0.out;have hcz3_0:=cellS107_0 HGz3;have hcz3_1:=cellS107_1 HGz3;have hcz3_2:=cellS107_2 HGz3;have hfz3_0:=kf_ HGz3 0;have hfz3_1:=kf_ HGz3 1;have hfz3_2:=kf_ HGz3 2;clear HGz3 hgz3;go_enter Try.func83,Try.ntmps83;go_wp2
  repeat (go_quiet (fail);try go_wp2)
  go_ret;exact ⟨ex_,iq107_ HI0,bi_ HB (IsS107.ge HI0.out),hq_ HK⟩
 ·replace c2:=Bool.eq_false_iff.mpr c2;subst c2
  have H1 : (some ((s0_1 == (s0_0.size : Int)),s0_0,s0_1,false)) = some (r1,r2,r3,r4):=by rw [if_neg (show ¬ (false = true) by decide)] at H;exact H
  clear H;have H:=H1;clear H1;simp only [Option.some.injEq,Prod.mk.injEq] at H;obtain ⟨rfl,rfl,rfl,rfl⟩:=H;obtain ⟨HGz4,hgz4⟩:=HI0.out;have hcz4_0:=cellS107_0 HGz4;have hcz4_1:=cellS107_1 HGz4;have hcz4_2:=cellS107_2 HGz4;have hfz4_0:=kf_ HGz4 0;have hfz4_1:=kf_ HGz4 1;have hfz4_2:=kf_ HGz4 2;clear HGz4 hgz4;go_enter Try.func83,Try.ntmps83;go_wp2
  repeat (go_quiet (fail);try go_wp2)
  go_ret;exact ⟨ex_,iq107_ HI0,bi_ HB (IsS107.ge HI0.out),hq_ HK⟩
mutual
def impl_SumMore.l0 : Nat → Int → ByteArray → Int → Option (Int)
 | 0,_,_,_ => none
 | k + 1,x0,x1,x5 => if x5 < (x1.size : Int) then (if 0 ≤ x5 then (impl_SumMore.l1 k (Go.bits .xor .u32 x0 ((bt x1 x5) % 4294967296)) x1 x5 0) else (none)) else (some x0)
def impl_SumMore.l1 : Nat → Int → ByteArray → Int → Int → Option (Int)
 | 0,_,_,_,_ => none
 | k + 1,x0,x1,x5,x6 => if x6 < 8 then (if (Int.tmod x0 2) = 1 then (impl_SumMore.l1 k (Go.bits .xor .u32 ((Int.tdiv x0 2) % 4294967296) 3558460437) x1 x5 (wrap64 (x6 + 1))) else (impl_SumMore.l1 k ((Int.tdiv x0 2) % 4294967296) x1 x5 (wrap64 (x6 + 1)))) else (impl_SumMore.l0 k x0 x1 (wrap64 (x5 + 1)))
end
def impl_SumMore.f (k : Nat) (a0 : Int) (a1 : ByteArray) : Option (Int) := impl_SumMore.l0 k a0 a1 0
theorem impl_SumMore.mono_l : ∀ k, (∀ y0 y1 y2, LeO (impl_SumMore.l0 k y0 y1 y2) (impl_SumMore.l0 (k + 1) y0 y1 y2)) ∧ (∀ y0 y1 y2 y3, LeO (impl_SumMore.l1 k y0 y1 y2 y3) (impl_SumMore.l1 (k + 1) y0 y1 y2 y3))
 | 0 => ⟨fun _ _ _ r h => by simp [impl_SumMore.l0] at h,fun _ _ _ _ r h => by simp [impl_SumMore.l1] at h⟩
 | k + 1 => by
  obtain ⟨ih0,ih1⟩:=impl_SumMore.mono_l k;refine ⟨?_,?_⟩
  ·intro y0 y1 y2
   unfold impl_SumMore.l0
   repeat' first
   | (with_reducible exact ih0 _ _ _)
   | (with_reducible exact ih1 _ _ _ _)
   | (with_reducible exact LeO.refl _)
   | (with_reducible exact LeO.none _)
   | (with_reducible refine LeO.ite ?_ ?_)
   | (with_reducible refine LeO.bind ?_ (fun _ => ?_))
  ·intro y0 y1 y2 y3
   unfold impl_SumMore.l1
   repeat' first
   | (with_reducible exact ih0 _ _ _)
   | (with_reducible exact ih1 _ _ _ _)
   | (with_reducible exact LeO.refl _)
   | (with_reducible exact LeO.none _)
   | (with_reducible refine LeO.ite ?_ ?_)
   | (with_reducible refine LeO.bind ?_ (fun _ => ?_))
theorem impl_SumMore.mono : ∀ a0 a1 k, LeO (impl_SumMore.f k a0 a1) (impl_SumMore.f (k + 1) a0 a1) := by
 intro a0 a1 k;obtain ⟨ih0,ih1⟩:=impl_SumMore.mono_l k
 unfold impl_SumMore.f
 repeat' first
   | (with_reducible exact ih0 _ _ _)
   | (with_reducible exact ih1 _ _ _ _)
   | (with_reducible exact LeO.refl _)
   | (with_reducible exact LeO.none _)
   | (with_reducible refine LeO.ite ?_ ?_)
   | (with_reducible refine LeO.bind ?_ (fun _ => ?_))
set_option maxHeartbeats 8000000 in
set_option maxRecDepth 100000 in
theorem impl_SumMore.calls (k : Nat) (a0 : Int) (a1 : ByteArray) (r : Int) (w : World) (h : impl_SumMore.f k a0 a1 = some r) :
  Calls Try.prog 166 #[.int .u32 a0,.string a1] w fun e w' => e = .returned (.int .u32 r) ∧ Drawn0 w w':=by
 unfold impl_SumMore.f at h;have H:=h;clear h;have H':=A_ H;clear H;go_enter Try.func166,Try.ntmps166;go_wp2
 go_loopg [0,5] k (fun kq v0 v5 w' => ∃ (x0_1 : Int) (x5_1 : Int),v0 = .int .u32 x0_1 ∧ v5 = .int .i64 x5_1 ∧ Aside0 (impl_SumMore.l0 kq x0_1 a1 x5_1 = some r) ∧ Aside0 (kq ≤ k) ∧ Drawn0 w w')
 case atStart => exact ⟨(a0),(0),(by first|rfl|(simp;done)|(simp [*];done)),(by first|rfl|(simp;done)|(simp [*];done)),H',⟨Nat.le_refl _⟩,by repeat (first|exact Drawn0.refl _|apply Drawn0.step)⟩
 case round =>
  clear H'
  try clear c1
  try clear p2
  obtain ⟨x0_1,x5_1,rfl,rfl,HA,HK1,⟨m1,rfl⟩⟩:=hrel
  cases gk with
  | zero => exact absurd HA.out (by simp [impl_SumMore.l0])
  | succ k1 =>
   have H:=HA.out;clear HA;simp only [impl_SumMore.l0] at H
   by_cases c3 : x5_1 < (a1.size : Int)
   ·rw [if_pos c3] at H;have c3b0 : decide (x5_1 < (a1.size : Int)) = true:=de_ c3;clear c3
    by_cases c4 : 0 ≤ x5_1
    ·rw [if_pos c4] at H;have c4b0 : decide (0 ≤ x5_1) = true:=de_ c4;clear c4;have H':=A_ H;clear H;have p5 : 0 ≤ (x5_1 : Int):=oda_;have q5 : x5_1 < (a1.size : Int):=oda_;have hx5:=bt_at a1 x5_1;replace p5:=eq_true p5;replace q5:=eq_true q5;go_wp2
     go_loopg [0,6] k1 (fun kq v0 v6 w' => ∃ (x0_2 : Int) (x6_2 : Int),v0 = .int .u32 x0_2 ∧ v6 = .int .i64 x6_2 ∧ Aside0 (impl_SumMore.l1 kq x0_2 a1 x5_1 x6_2 = some r) ∧ Aside0 (kq ≤ k1) ∧ Drawn0 w w')
     case atStart => exact ⟨(Go.bits .xor .u32 x0_1 ((bt a1 x5_1) % 4294967296)),(0),(by first|rfl|(simp;done)|(simp [*];done)),(by first|rfl|(simp;done)|(simp [*];done)),H',⟨Nat.le_refl _⟩,by repeat (first|exact Drawn0.refl _|apply Drawn0.step)⟩
     case round =>
      clear H'
      try clear c1
      try clear p2
      try clear c3
      try clear c3b0
      try clear c4
      try clear c4b0
      try clear p5
      try clear q5
      try clear hx5
      try clear p2
      try clear p5
      try clear q5
      obtain ⟨x0_2,x6_2,rfl,rfl,HA,HK2,⟨m2,rfl⟩⟩:=hrel
      cases gk with
      | zero => exact absurd HA.out (by simp [impl_SumMore.l1])
      | succ k2 =>
       have H:=HA.out;clear HA;simp only [impl_SumMore.l1] at H
       by_cases c6 : x6_2 < 8
       ·rw [if_pos c6] at H;have c6b0 : decide (x6_2 < 8) = true:=de_ c6;clear c6
        by_cases c7 : (Int.tmod x0_2 2) = 1
        ·rw [if_pos c7] at H;have c7b0 : ((Int.tmod x0_2 2) == 1) = true:=beq_iff_eq.mpr c7;have c7b1 : ((Int.tmod x0_2 2) != 1) = false:=bne_eq_false_iff_eq.mpr c7;clear c7;have H':=A_ H;clear H;go_wp2
         go_roundg k2
         case measure => have:=HK1.out;have:=HK2.out;omega
         case rel => exact ⟨(Go.bits .xor .u32 ((Int.tdiv x0_2 2) % 4294967296) 3558460437),(wrap64 (x6_2 + 1)),(by first|rfl|(simp;done)|(simp [*];done)),(by first|rfl|(simp;done)|(simp [*];done)),H',⟨by have:=HK1.out;have:=HK2.out;omega⟩,by repeat (first|exact Drawn0.refl _|apply Drawn0.step)⟩
        ·rw [if_neg c7] at H;have c7b0 : ((Int.tmod x0_2 2) == 1) = false:=beq_eq_false_iff_ne.mpr c7;have c7b1 : ((Int.tmod x0_2 2) != 1) = true:=bne_iff_ne.mpr c7;have H':=A_ H;clear H;go_wp2
         go_roundg k2
         case measure => have:=HK1.out;have:=HK2.out;omega
         case rel => exact ⟨((Int.tdiv x0_2 2) % 4294967296),(wrap64 (x6_2 + 1)),(by first|rfl|(simp;done)|(simp [*];done)),(by first|rfl|(simp;done)|(simp [*];done)),H',⟨by have:=HK1.out;have:=HK2.out;omega⟩,by repeat (first|exact Drawn0.refl _|apply Drawn0.step)⟩
       ·rw [if_neg c6] at H;have c6b0 : decide (x6_2 < 8) = false:=decide_eq_false c6;clear c6;have H':=A_ H;clear H;go_wp2
        go_roundg k2
        case measure => have:=HK1.out;have:=HK2.out;omega
        case rel => exact ⟨(x0_2),(wrap64 (x5_1 + 1)),(by first|rfl|(simp;done)|(simp [*];done)),(by first|rfl|(simp;done)|(simp [*];done)),H',⟨by have:=HK1.out;have:=HK2.out;omega⟩,by repeat (first|exact Drawn0.refl _|apply Drawn0.step)⟩
    ·rw [if_neg c4] at H;exact absurd H (by simp)
   ·rw [if_neg c3] at H;have c3b0 : decide (x5_1 < (a1.size : Int)) = false:=decide_eq_false c3;clear c3;obtain rfl:=Option.some.inj H;go_wp2;go_ret;exact ⟨by first|rfl|(simp;done)|(simp [*];done),by repeat (first|exact Drawn0.refl _|apply Drawn0.step)⟩
def impl_SumOf.f (k : Nat) (a0 : ByteArray) : Option (Int) := (impl_SumMore.f k 4294967295 a0).bind fun t196 => (some t196)
theorem impl_SumOf.mono : ∀ a0 k, LeO (impl_SumOf.f k a0) (impl_SumOf.f (k + 1) a0) := by
 intro a0 k
 unfold impl_SumOf.f
 repeat' first
   | (with_reducible exact impl_SumMore.mono _ _ _)
   | (with_reducible exact LeO.refl _)
   | (with_reducible exact LeO.none _)
   | (with_reducible refine LeO.ite ?_ ?_)
   | (with_reducible refine LeO.bind ?_ (fun _ => ?_))
set_option maxHeartbeats 8000000 in
set_option maxRecDepth 100000 in
theorem impl_SumOf.calls (k : Nat) (a0 : ByteArray) (r : Int) (w : World) (h : impl_SumOf.f k a0 = some r) :
  Calls Try.prog 143 #[.string a0] w fun e w' => e = .returned (.int .u32 r) ∧ Drawn0 w w':=by
 unfold impl_SumOf.f at h;have H:=h;clear h;replace H:=ob_.mp H;obtain ⟨t196,A20,H⟩:=H;(try dsimp only at H);have A2:=A_ A20;clear A20;obtain rfl:=Option.some.inj H;go_enter Try.func143,Try.ntmps143
 go_wp2_with (first|((with_reducible refine gate_callee (f:=166) rfl ?_);refine gL_ (some 4) Try.func166 #[.int .u32 4294967295,.string a0] ?_;(with_reducible refine (impl_SumMore.calls k 4294967295 a0 t196 _ A2.out).mono ?_);rintro e w' ⟨rfl,⟨nd,rfl⟩⟩;refine ⟨_,rfl,?_⟩))
 go_ret;exact ⟨by first|rfl|(simp;done)|(simp [*];done),by repeat (first|exact Drawn0.refl _|apply Drawn0.step)⟩
def impl_Sealed.f (k : Nat) (a0 : ByteArray) : Option (ByteArray × Bool) := if (a0.size : Int) > 20000 then (some ((⟨#[]⟩ : ByteArray), false)) else ((impl_SumOf.f k a0).bind fun t197 => ((some (([(t197 / 16777216) % 256, (t197 / 65536) % 256, (t197 / 256) % 256, (t197) % 256] : List Int) : List Int)).bind fun y198 => (if a0.size + (strOfNums y198).size ≤ 9223372036854775807 then (some (a0 ++ (strOfNums y198), true)) else (none))))
theorem impl_Sealed.mono : ∀ a0 k, LeO (impl_Sealed.f k a0) (impl_Sealed.f (k + 1) a0) := by
 intro a0 k
 unfold impl_Sealed.f
 repeat' first
   | (with_reducible exact impl_SumOf.mono _ _)
   | (with_reducible exact LeO.refl _)
   | (with_reducible exact LeO.none _)
   | (with_reducible refine LeO.ite ?_ ?_)
   | (with_reducible refine LeO.bind ?_ (fun _ => ?_))
set_option maxHeartbeats 8000000 in
set_option maxRecDepth 100000 in
theorem impl_Sealed.calls (k : Nat) (a0 : ByteArray) (r1 : ByteArray) (r2 : Bool) (w : World) (h : impl_Sealed.f k a0 = some (r1, r2)) :
  Calls Try.prog 156 #[.string a0] w fun e w' => e = .returned (.tuple #[.string r1,.bool r2]) ∧ Below w.heap.size w w':=by
 have HB:=A_ (Below.refl w.heap.size w);unfold impl_Sealed.f at h;have H:=h;clear h
 by_cases c2 : (a0.size : Int) > 20000
 ·rw [if_pos c2] at H;have c2b0 : decide (20000 < (a0.size : Int)) = true:=de_ c2;have c2b1 : decide (20000 < a0.size) = true:=de_ (by omega);clear c2;simp only [Option.some.injEq,Prod.mk.injEq] at H;obtain ⟨rfl,rfl⟩:=H;go_enter Try.func156,Try.ntmps156;go_wp2;go_ret2;exact ⟨ex_,bq_ HB⟩
 ·rw [if_neg c2] at H;have c2b0 : decide (20000 < (a0.size : Int)) = false:=decide_eq_false c2;have c2b1 : decide (20000 < a0.size) = false:=decide_eq_false (by omega);clear c2;replace H:=ob_.mp H;obtain ⟨t197,A30,H⟩:=H;(try dsimp only at H);have A3:=A_ A30;clear A30;obtain ⟨y198,hy198⟩ : ∃ y_ : List Int,y_ = (([(t197 / 16777216) % 256,(t197 / 65536) % 256,(t197 / 256) % 256,(t197) % 256] : List Int)):=⟨_,rfl⟩
  replace H : (if a0.size + (strOfNums y198).size ≤ 9223372036854775807 then (some (a0 ++ (strOfNums y198),true)) else (none)) = some (r1,r2):=by first|(rw [hy198];with_reducible exact H)|(have H2_:=(Option.bind_some _ _).symm.trans H;rw [hy198];with_reducible exact H2_)|(have H2_:=(Option.bind_some _ _).symm.trans H;with_reducible exact H2_)|with_reducible exact H|(rw [hy198];exact H)|exact H
  have Ny198:=A_ hy198;clear hy198
  by_cases c4 : a0.size + (strOfNums y198).size ≤ 9223372036854775807
  ·rw [if_pos c4] at H;have c4b0:=eq_true c4;have c4b1 : decide (a0.size + (strOfNums y198).size ≤ 9223372036854775807) = true:=de_ c4
   try have c4b2 : (9223372036854775807 < a0.size + (strOfNums y198).size) = False:=eq_false (Nat.not_lt.2 c4)
   simp only [Option.some.injEq,Prod.mk.injEq] at H;obtain ⟨rfl,rfl⟩:=H;go_enter Try.func156,Try.ntmps156
   go_wp2_with (first|((with_reducible refine gate_callee (f:=143) rfl ?_);refine gL_ (some 9) Try.func143 #[.string a0] ?_;(with_reducible refine (impl_SumOf.calls k a0 t197 _ A3.out).mono ?_);rintro e w' ⟨rfl,⟨nd,rfl⟩⟩;refine ⟨_,rfl,?_⟩)|((with_reducible refine gate_dst (N:=22) rfl ?_);refine rX_ (d:=(Kd.int .u8)) (e:=5) (xs:=([(t197 / 16777216) % 256,(t197 / 65536) % 256,(t197 / 256) % 256,(t197) % 256] : List Int)) (inner:=[.int .u8 ((t197 / 16777216) % 256),.int .u8 ((t197 / 65536) % 256),.int .u8 ((t197 / 256) % 256),.int .u8 ((t197) % 256)]) (ok:=fun _ => True) (okp:=fun _ => True) 22 (Reps.one (show Kd.M (Kd.int .u8) _ _ _ ((t197 / 16777216) % 256) [.int .u8 ((t197 / 16777216) % 256)] from rfl) (Reps.one (show Kd.M (Kd.int .u8) _ _ _ ((t197 / 65536) % 256) [.int .u8 ((t197 / 65536) % 256)] from rfl) (Reps.one (show Kd.M (Kd.int .u8) _ _ _ ((t197 / 256) % 256) [.int .u8 ((t197 / 256) % 256)] from rfl) (Reps.one (show Kd.M (Kd.int .u8) _ _ _ ((t197) % 256) [.int .u8 ((t197) % 256)] from rfl) (Reps.none _ _))))) ?_;intro v199 w5 ho6 hb hg_ hnew_;clear hg_ hnew_;(first|rw [← Ny198.out] at ho6|(simp only [Int.reduceToNat] at ho6;rw [← Ny198.out] at ho6));have HO200:=A_ (rw_ ho6 (bz_ (bq_ HB)));replace HB:=bS_ HB hb;clear hb ho6;have hcv7:=own_string (P:=Try.prog) Try.underlying22 Try.underlying5 Try.underlying9 (Kd.own_of_R HO200.out)))
   go_ret2;exact ⟨ex_,bq_ HB⟩
  ·rw [if_neg c4] at H;exact absurd H (by simp)
def impl_Unsealed.f (k : Nat) (a0 : ByteArray) : Option (ByteArray × Bool) := if (a0.size : Int) < 4 then (some ((⟨#[]⟩ : ByteArray), false)) else (if 0 ≤ (wrap64 ((a0.size : Int) - 4)) then (if (wrap64 ((a0.size : Int) - 4)) ≤ (a0.size : Int) then ((impl_Sealed.f k (a0.extract 0 ((wrap64 ((a0.size : Int) - 4)) : Int).toNat)).bind fun bt201 => (if bt201.2 = true then (if bt201.1.toList = a0.toList then (some (a0.extract 0 ((wrap64 ((a0.size : Int) - 4)) : Int).toNat, true)) else (some ((⟨#[]⟩ : ByteArray), false))) else (some ((⟨#[]⟩ : ByteArray), false)))) else (none)) else (none))
theorem impl_Unsealed.mono : ∀ a0 k, LeO (impl_Unsealed.f k a0) (impl_Unsealed.f (k + 1) a0) := by
 intro a0 k
 unfold impl_Unsealed.f
 repeat' first
   | (with_reducible exact impl_Sealed.mono _ _)
   | (with_reducible exact LeO.refl _)
   | (with_reducible exact LeO.none _)
   | (with_reducible refine LeO.ite ?_ ?_)
   | (with_reducible refine LeO.bind ?_ (fun _ => ?_))
set_option maxHeartbeats 8000000 in
set_option maxRecDepth 100000 in
theorem impl_Unsealed.calls (k : Nat) (a0 : ByteArray) (r1 : ByteArray) (r2 : Bool) (w : World) (h : impl_Unsealed.f k a0 = some (r1, r2)) :
  Calls Try.prog 109 #[.string a0] w fun e w' => e = .returned (.tuple #[.string r1,.bool r2]) ∧ Below w.heap.size w w':=by
 have HB:=A_ (Below.refl w.heap.size w);unfold impl_Unsealed.f at h;have H:=h;clear h
 by_cases c2 : (a0.size : Int) < 4
 ·rw [if_pos c2] at H;have c2b0 : decide ((a0.size : Int) < 4) = true:=de_ c2;have c2b1 : decide (a0.size < 4) = true:=de_ (by omega);clear c2;simp only [Option.some.injEq,Prod.mk.injEq] at H;obtain ⟨rfl,rfl⟩:=H;go_enter Try.func109,Try.ntmps109;go_wp2;go_ret2;exact ⟨ex_,bq_ HB⟩
 ·rw [if_neg c2] at H;have c2b0 : decide ((a0.size : Int) < 4) = false:=decide_eq_false c2;have c2b1 : decide (a0.size < 4) = false:=decide_eq_false (by omega);clear c2;obtain ⟨ji3,hji3⟩ : ∃ j_ : Int,(wrap64 ((a0.size : Int) - 4)) = j_:=⟨_,rfl⟩
  replace H : (if 0 ≤ (ji3) then (if (ji3) ≤ (a0.size : Int) then ((impl_Sealed.f k (a0.extract 0 ((ji3) : Int).toNat)).bind fun bt201 => (if bt201.2 = true then (if bt201.1.toList = a0.toList then (some (a0.extract 0 ((ji3) : Int).toNat,true)) else (some ((⟨#[]⟩ : ByteArray),false))) else (some ((⟨#[]⟩ : ByteArray),false)))) else (none)) else (none)) = some (r1,r2):=by first|(rw [hji3] at H;exact H)|(simp only [hji3] at H ⊢;exact H)
  have hji3w : (IntKind.i64.wrap ((a0.size : Int) - 4)) = ji3:=(i64_w _).trans hji3
  by_cases c4 : 0 ≤ (ji3)
  ·rw [if_pos c4] at H;have c4b0:=eq_true c4;have c4b1 : decide (0 ≤ (ji3)) = true:=de_ c4;clear c4
   by_cases c5 : (ji3) ≤ (a0.size : Int)
   ·rw [if_pos c5] at H;have c5b0:=eq_true c5;have c5b1 : decide ((ji3) ≤ (a0.size : Int)) = true:=de_ c5;clear c5;replace H:=ob_.mp H;obtain ⟨⟨t201,t202⟩,A60,H⟩:=H;(try dsimp only at H);have A6:=A_ A60;clear A60
    by_cases c7 : t202 = true
    ·subst c7
     rw [if_pos rfl] at H
     by_cases c8 : t201.toList = a0.toList
     ·rw [if_pos c8] at H;have c8b0 : (t201.toList == a0.toList) = true:=beq_iff_eq.mpr c8;have c8b1 : (t201.toList != a0.toList) = false:=bne_eq_false_iff_eq.mpr c8;clear c8;simp only [Option.some.injEq,Prod.mk.injEq] at H;obtain ⟨rfl,rfl⟩:=H;go_enter Try.func109,Try.ntmps109
      go_wp2_with (first|((with_reducible refine gate_callee (f:=156) rfl ?_);refine goesL_ (some 17) rfl rfl Try.func156 (by kernel_rfl) rfl #[.string (a0.extract 0 ((ji3) : Int).toNat)] rfl (by (try simp only [s4_,s5_,s6_]);first|done|(simp only [hji3];rfl)|rfl|(simp only [List.length_drop,List.length_take];rfl)) ?_;(with_reducible refine (impl_Sealed.calls k (a0.extract 0 ((ji3) : Int).toNat) t201 true _ A6.out).mono ?_);rintro e w9 ⟨rfl,hb⟩;refine ⟨_,rfl,?_⟩;replace HB:=bS_ HB hb;(try clear hb)))
      go_ret2;exact ⟨by first|rfl|(simp [errW_none,errW_some] <;> rfl)|(simp only [← hji3];first|rfl|(simp [errW_none,errW_some] <;> rfl))|(simp [*,errW_none,errW_some] <;> rfl),bq_ HB⟩
     ·rw [if_neg c8] at H;have c8b0 : (t201.toList == a0.toList) = false:=beq_eq_false_iff_ne.mpr c8;have c8b1 : (t201.toList != a0.toList) = true:=bne_iff_ne.mpr c8;simp only [Option.some.injEq,Prod.mk.injEq] at H;obtain ⟨rfl,rfl⟩:=H;go_enter Try.func109,Try.ntmps109
      go_wp2_with (first|((with_reducible refine gate_callee (f:=156) rfl ?_);refine goesL_ (some 17) rfl rfl Try.func156 (by kernel_rfl) rfl #[.string (a0.extract 0 ((ji3) : Int).toNat)] rfl (by (try simp only [s4_,s5_,s6_]);first|done|(simp only [hji3];rfl)|rfl|(simp only [List.length_drop,List.length_take];rfl)) ?_;(with_reducible refine (impl_Sealed.calls k (a0.extract 0 ((ji3) : Int).toNat) t201 true _ A6.out).mono ?_);rintro e w10 ⟨rfl,hb⟩;refine ⟨_,rfl,?_⟩;replace HB:=bS_ HB hb;(try clear hb)))
      go_ret2;exact ⟨by first|rfl|(simp [errW_none,errW_some] <;> rfl)|(simp only [← hji3];first|rfl|(simp [errW_none,errW_some] <;> rfl))|(simp [*,errW_none,errW_some] <;> rfl),bq_ HB⟩
    ·replace c7:=Bool.eq_false_iff.mpr c7;subst c7
     have H1 : (some ((⟨#[]⟩ : ByteArray),false)) = some (r1,r2):=by rw [if_neg (show ¬ (false = true) by decide)] at H;exact H
     clear H;have H:=H1;clear H1;simp only [Option.some.injEq,Prod.mk.injEq] at H;obtain ⟨rfl,rfl⟩:=H;go_enter Try.func109,Try.ntmps109
     go_wp2_with (first|((with_reducible refine gate_callee (f:=156) rfl ?_);refine goesL_ (some 17) rfl rfl Try.func156 (by kernel_rfl) rfl #[.string (a0.extract 0 ((ji3) : Int).toNat)] rfl (by (try simp only [s4_,s5_,s6_]);first|done|(simp only [hji3];rfl)|rfl|(simp only [List.length_drop,List.length_take];rfl)) ?_;(with_reducible refine (impl_Sealed.calls k (a0.extract 0 ((ji3) : Int).toNat) t201 false _ A6.out).mono ?_);rintro e w11 ⟨rfl,hb⟩;refine ⟨_,rfl,?_⟩;replace HB:=bS_ HB hb;(try clear hb)))
     go_ret2;exact ⟨by first|rfl|(simp [errW_none,errW_some] <;> rfl)|(simp only [← hji3];first|rfl|(simp [errW_none,errW_some] <;> rfl))|(simp [*,errW_none,errW_some] <;> rfl),bq_ HB⟩
   ·rw [if_neg c5] at H;exact absurd H (by simp)
  ·rw [if_neg c4] at H;exact absurd H (by simp)
def impl_within.f (a0 : Int) (a1 : Int) (a2 : Int) : Option (Bool) := if a0 ≥ a1 then (some (decide (a0 ≤ a2))) else (some false)
set_option maxHeartbeats 8000000 in
set_option maxRecDepth 100000 in
theorem impl_within.calls (a0 : Int) (a1 : Int) (a2 : Int) (r : Bool) (w : World) (h : impl_within.f a0 a1 a2 = some r) :
  Calls Try.prog 75 #[.int .i64 a0,.int .i64 a1,.int .i64 a2] w fun e w' => e = .returned (.bool r) ∧ Drawn0 w w':=by
 unfold impl_within.f at h;have H:=h;clear h
 by_cases c4 : a0 ≥ a1
 ·rw [if_pos c4] at H;have c4b0 : decide (a1 ≤ a0) = true:=de_ c4;clear c4;obtain rfl:=Option.some.inj H;go_enter Try.func75,Try.ntmps75;go_wp2;go_ret;exact ⟨by first|rfl|(simp;done)|(simp [*];done),by repeat (first|exact Drawn0.refl _|apply Drawn0.step)⟩
 ·rw [if_neg c4] at H;have c4b0 : decide (a1 ≤ a0) = false:=decide_eq_false c4;clear c4;obtain rfl:=Option.some.inj H;go_enter Try.func75,Try.ntmps75;go_wp2;go_ret;exact ⟨by first|rfl|(simp;done)|(simp [*];done),by repeat (first|exact Drawn0.refl _|apply Drawn0.step)⟩
end Go.Proofs.Ytgpafelepkhdoaa.PFnExactReadHint
