/- The contracts of the Go functions that this law reaches: what each call returns, by a plain Lean function of its arguments. No conditions but those each contract names. By the kit's print.py, run by this session's wip/gen/pp.py with facts and hand proofs beside it: not to the letter what print.sh prints. -/
import Derived.Test.YtbcgnncbiblibaaPFnExactScanSegx0
import Derived.Test.YtbcgnncbiblibaaPFnExactScanSegx3
import Derived.Test.YtbcgnncbiblibaaPFnExactScanSegx5
namespace Go.Proofs.Ytbcgnncbiblibaa.PFnExactScanSeg
open Go.RowKit Go.Proofs.YtbcgnncbiblibaaW.PrintWords Go.Proofs.YtbcgnncbiblibaaW.PrintLast Go.Proofs.YtbcgnncbiblibaaW.PrintMore
attribute [local go_sem] max2_int min2_int max_two min_two max_three min_three max_four min_four
set_option linter.unusedVariables false
set_option linter.unusedSimpArgs false
mutual
def spec_ReadBatch.l0 : Nat → ByteArray → Int → Int → ByteArray → Int → Bool → Int → List (S85) → Option (Int × (List (S85)) × Bool)
 | 0,_,_,_,_,_,_,_,_ => none
 | k + 1,x0,x6,x7,x165000,x165001,x165002,x166000,x166001 => if x7 < x6 then (spec_ReadBatch.j1 k x0 x6 x7 (!x165002) x165000 x165001 x165002 x166000 x166001) else (spec_ReadBatch.j1 k x0 x6 x7 false x165000 x165001 x165002 x166000 x166001)
def spec_ReadBatch.j1 : Nat → ByteArray → Int → Int → Bool → ByteArray → Int → Bool → Int → List (S85) → Option (Int × (List (S85)) × Bool)
 | 0,_,_,_,_,_,_,_,_,_ => none
 | k + 1,x0,x6,x7,x29,x165000,x165001,x165002,x166000,x166001 => if x29 = true then ((spec_l05ReadShort.f k x165000 x165001 x165002).bind fun bt175 => ((spec_l05Take.f bt175.2.1 bt175.2.2.1 bt175.2.2.2 1).bind fun bt179 => ((spec_l05ReadShort.f k bt179.2.1 bt179.2.2.1 bt179.2.2.2).bind fun bt183 => (if x166001.length < 3518437208883 then (spec_ReadBatch.l0 k x0 x6 (wrap64 (x7 + 1)) bt183.2.1 bt183.2.2.1 bt183.2.2.2 x166000 (x166001 ++ [(⟨bt175.1,bt183.1,(bt179.1.toList == ([1] : List UInt8))⟩ : S85)])) else (none))))) else ((spec_BatchText.f k x166000 x166001).bind fun bt190 => (if x165002 = true then (some (0,([] : List (S85)),false)) else (if bt190.2 = true then (if bt190.1.toList = x0.toList then (some (x166000,x166001,true)) else (some (0,([] : List (S85)),false))) else (some (0,([] : List (S85)),false)))))
end
def spec_ReadBatch.f (k : Nat) (a0 : ByteArray) : Option (Int × (List (S85)) × Bool) := (spec_l05Var.f k a0 0 false).bind fun bt166 => ((spec_l05Var.f k bt166.2.1 bt166.2.2.1 bt166.2.2.2).bind fun bt170 => (spec_ReadBatch.l0 k a0 bt170.1 0 bt170.2.1 bt170.2.2.1 bt170.2.2.2 bt166.1 ([] : List (S85))))
theorem spec_ReadBatch.mono_l : ∀ k, (∀ y0 y1 y2 y3 y4 y5 y6 y7, LeO (spec_ReadBatch.l0 k y0 y1 y2 y3 y4 y5 y6 y7) (spec_ReadBatch.l0 (k + 1) y0 y1 y2 y3 y4 y5 y6 y7)) ∧ (∀ y0 y1 y2 y3 y4 y5 y6 y7 y8, LeO (spec_ReadBatch.j1 k y0 y1 y2 y3 y4 y5 y6 y7 y8) (spec_ReadBatch.j1 (k + 1) y0 y1 y2 y3 y4 y5 y6 y7 y8))
 | 0 => ⟨fun _ _ _ _ _ _ _ _ r h => by simp [spec_ReadBatch.l0] at h,fun _ _ _ _ _ _ _ _ _ r h => by simp [spec_ReadBatch.j1] at h⟩
 | k + 1 => by
  obtain ⟨ih0,ih1⟩:=spec_ReadBatch.mono_l k;refine ⟨?_,?_⟩
  ·intro y0 y1 y2 y3 y4 y5 y6 y7
   unfold spec_ReadBatch.l0
   repeat' first
   | (with_reducible exact ih0 _ _ _ _ _ _ _ _)
   | (with_reducible exact ih1 _ _ _ _ _ _ _ _ _)
   | (with_reducible exact spec_BatchText.mono _ _ _)
   | (with_reducible exact spec_l05ReadShort.mono _ _ _ _)
   | (with_reducible exact spec_l05Var.mono _ _ _ _)
   | (with_reducible exact LeO.refl _)
   | (with_reducible exact LeO.none _)
   | (with_reducible refine LeO.ite ?_ ?_)
   | (with_reducible refine LeO.bind ?_ (fun _ => ?_))
  ·intro y0 y1 y2 y3 y4 y5 y6 y7 y8
   unfold spec_ReadBatch.j1
   repeat' first
   | (with_reducible exact ih0 _ _ _ _ _ _ _ _)
   | (with_reducible exact ih1 _ _ _ _ _ _ _ _ _)
   | (with_reducible exact spec_BatchText.mono _ _ _)
   | (with_reducible exact spec_l05ReadShort.mono _ _ _ _)
   | (with_reducible exact spec_l05Var.mono _ _ _ _)
   | (with_reducible exact LeO.refl _)
   | (with_reducible exact LeO.none _)
   | (with_reducible refine LeO.ite ?_ ?_)
   | (with_reducible refine LeO.bind ?_ (fun _ => ?_))
theorem spec_ReadBatch.mono : ∀ a0 k, LeO (spec_ReadBatch.f k a0) (spec_ReadBatch.f (k + 1) a0) := by
 intro a0 k;obtain ⟨ih0,ih1⟩:=spec_ReadBatch.mono_l k
 unfold spec_ReadBatch.f
 repeat' first
   | (with_reducible exact ih0 _ _ _ _ _ _ _ _)
   | (with_reducible exact ih1 _ _ _ _ _ _ _ _ _)
   | (with_reducible exact spec_BatchText.mono _ _ _)
   | (with_reducible exact spec_l05ReadShort.mono _ _ _ _)
   | (with_reducible exact spec_l05Var.mono _ _ _ _)
   | (with_reducible exact LeO.refl _)
   | (with_reducible exact LeO.none _)
   | (with_reducible refine LeO.ite ?_ ?_)
   | (with_reducible refine LeO.bind ?_ (fun _ => ?_))
set_option maxHeartbeats 8000000 in
set_option maxRecDepth 100000 in
theorem spec_ReadBatch.calls (k : Nat) (a0 : ByteArray) (r1 : Int) (r2 : List (S85)) (r3 : Bool) (w : World) (h : spec_ReadBatch.f k a0 = some (r1, r2, r3)) :
  Calls Try.prog 52 #[.string a0] w fun e w' => ∃ v1_ : Value,e = .returned (.tuple #[.agg #[.int .i64 r1,v1_],.bool r3]) ∧ Kd.R k85 85 w' w.heap.size (fun _ => True) v1_ r2 ∧ Below w.heap.size w w':=by
 have hu79:=Try.underlying79;have hu98:=Try.underlying98;have hu85:=Try.underlying85;have HB:=A_ (Below.refl w.heap.size w);unfold spec_ReadBatch.f at h;have H:=h;clear h;replace H:=ob_.mp H;obtain ⟨⟨t166,t167,t168,t169⟩,A20,H⟩:=H;(try dsimp only at H);have A2:=A_ A20;clear A20;replace H:=ob_.mp H;obtain ⟨⟨t170,t171,t172,t173⟩,A30,H⟩:=H;(try dsimp only at H);have A3:=A_ A30;clear A30;have H':=A_ H;clear H;go_enter Try.func52,Try.ntmps52
 go_wp2_with (first|((with_reducible refine gate_dst (N:=2) rfl ?_);refine bE_ 2 #[.int .i64 0,.slice none 0 0] 79 ?_;intro gb163 hg w4 hbox hb;have BK163:=A_ (hbox);have GW163:=gE_ hg HB;have GE163:=gE_ hg HB;replace HB:=bS_ HB hb;clear hb hbox hg)|((with_reducible refine gate_dst (N:=13) rfl ?_);refine bE_ 13 #[.string a0,.int .i64 0,.bool false] 98 ?_;intro gb164 hg w5 hbox hb;have HI164:=A_ ((show IsS98 w w5 gb164 a0 0 false from ⟨hbox,(by rw [hg];exact (bz_ (bq_ HB)) : w.heap.size ≤ gb164)⟩));replace HB:=bS_ HB hb;have NB163_164:=nB_ hg BK163;have NB164_163:=nC_ hg BK163;replace BK163:=kB_ BK163 hb;clear hb hbox hg)|((with_reducible refine gate_dst (N:=5) rfl ?_);refine bE_ 5 #[.int .i64 0,.slice none 0 0] 79 ?_;intro gb165 hg w6 hbox hb;have BK165:=A_ (hbox);have GW165:=A_ ((by rw [hg];exact (bz_ (bi_ HB (IsS98.ge HI164.out))) : w.heap.size ≤ gb165));have GE165:=A_ ((by rw [hg];exact (bz_ (bi_ HB (IsS98.ge HI164.out))) : w.heap.size ≤ gb165));replace HB:=A_ (bs_ (bi_ HB (IsS98.ge HI164.out)) hb);have NB163_165:=nB_ hg BK163;have NB165_163:=nC_ hg BK163;replace BK163:=kB_ BK163 hb;have NB164_165:=A_ ((by rw [hg];exact nl_ (IsS98.lt (show IsS98 w _ gb164 a0 0 false from iq98_ HI164)) : gb164 ≠ gb165));have NB165_164:=A_ ((by rw [hg];exact ng_ (IsS98.lt (show IsS98 w _ gb164 a0 0 false from iq98_ HI164)) : gb165 ≠ gb164));replace HI164:=A_ (IsS98.below (iq98_ HI164) hb);clear hb hbox hg;have hnb7:=NB165_163.out;have hnc7:=NB163_165.out;have hnb8:=NB165_164.out;have hnc8:=NB164_165.out;obtain ⟨hcz9_0,hcz9_1,hfz9_0,hfz9_1⟩:=k2f_ BK165)|((with_reducible refine gate_callee (f:=61) rfl ?_);refine gL_ (some 16) Try.func61 #[.pointer (some ⟨gb164,0,none⟩)] ?_;(with_reducible refine (spec_l05Var.calls k gb164 a0 0 false t166 t167 t168 t169 w _ ?side1 ?side2 A2.out).mono ?_);(case side1 => exact iq98_ HI164);(case side2 => exact bi_ HB (IsS98.ge HI164.out));rintro e w10 ⟨rfl,hi,hb,hk⟩;refine ⟨_,rfl,?_⟩;replace BK163:=A_ (KeepBut.blk hk (g':=gb163) (o:=.cells #[.int .i64 0,.slice none 0 0] 79 (0,0)) (kz_ BK163) NB163_164.out (by simp));replace BK165:=A_ (KeepBut.blk hk (g':=gb165) (o:=.cells #[.int .i64 0,.slice none 0 0] 79 (0,0)) (kz_ BK165) NB165_164.out (by simp));replace HB:=A_ (hb);replace HI164:=A_ (hi);(try clear hb);(try clear hk);(try clear hi);obtain ⟨hcz11_0,hcz11_1,hfz11_0,hfz11_1⟩:=k2f_ BK165)|((with_reducible refine gate_callee (f:=61) rfl ?_);refine gL_ (some 19) Try.func61 #[.pointer (some ⟨gb164,0,none⟩)] ?_;(with_reducible refine (spec_l05Var.calls k gb164 t167 t168 t169 t170 t171 t172 t173 w _ ?side1 ?side2 A3.out).mono ?_);(case side1 => exact iq98_ HI164);(case side2 => exact bi_ HB (IsS98.ge HI164.out));rintro e w12 ⟨rfl,hi,hb,hk⟩;refine ⟨_,rfl,?_⟩;replace BK163:=A_ (KeepBut.blk hk (g':=gb163) (o:=.cells #[.int .i64 0,.slice none 0 0] 79 (0,0)) (kz_ BK163) NB163_164.out (by simp));replace BK165:=A_ (KeepBut.blk hk (g':=gb165) (o:=.cells #[.int .i64 t166,.slice none 0 0] 79 (0,0)) (kz_ BK165) NB165_164.out (by simp));replace HB:=A_ (hb);replace HI164:=A_ (hi);(try clear hb);(try clear hk);(try clear hi)))
 go_loopg [7] k (fun kq v7 w' => ∃ (x7_1 : Int) (x165000_1 : ByteArray) (x165001_1 : Int) (x165002_1 : Bool) (x166001_1 : List (S85)) (u166001 : Value),v7 = .int .i64 x7_1 ∧ Aside0 (spec_ReadBatch.l0 kq a0 t170 x7_1 x165000_1 x165001_1 x165002_1 t166 x166001_1 = some (r1,r2,r3)) ∧ Aside0 (kq ≤ k) ∧ Aside0 (Kd.R k85 85 w' w.heap.size (fun _ => True) u166001 x166001_1) ∧ Aside0 (w'.heap[gb163]? = some (.cells #[.int .i64 0,(.slice none 0 0)] 79 (0,0))) ∧ Aside0 (w'.heap[gb165]? = some (.cells #[.int .i64 t166,u166001] 79 (0,0))) ∧ Aside0 (IsS98 w w' gb164 x165000_1 x165001_1 x165002_1) ∧ Aside0 (Below w.heap.size w w'))
 case atStart => exact ⟨(0),(t171),(t172),(t173),(([] : List (S85))),(.slice none 0 0),(by first|rfl|(simp;done)|(simp [*];done)),H',⟨Nat.le_refl _⟩,⟨by first|exact Kd.R_nil _ _ _ _ _|exact Kd.N_nil _ _ _ _ _|exact Kd.V_nil _ _ _ _ _|exact Kd.Q_nil _ _ _ _ _|exact Kd.S_nil _ _ _ _ _⟩,⟨kq_ BK163⟩,⟨kq_ BK165⟩,⟨iq98_ HI164⟩,⟨bi_ HB (IsS98.ge HI164.out)⟩⟩
 case round =>
  clear H'
  try clear p2
  try clear c5
  try clear c6
  try clear c7
  try clear c8
  try clear hcz11_0
  try clear hcz11_1
  try clear hcz9_0
  try clear hcz9_1
  try clear hfz11_0
  try clear hfz11_1
  try clear hfz9_0
  try clear hfz9_1
  obtain ⟨x7_1,x165000_1,x165001_1,x165002_1,x166001_1,u166001,rfl,HA,HK1,HO_166001,BK163,BK165,HI164,HB⟩:=hrel
  cases gk with
  | zero => exact absurd HA.out (by simp [spec_ReadBatch.l0])
  | succ k1 =>
   have H:=HA.out;clear HA;simp only [spec_ReadBatch.l0] at H;have HC13:=A_ H;clear H
   go_upto_region 6 with (fail)
   go_cut [29] (fun v29 wc => ∃ (kq : Nat) (x29_12 : Bool),v29 = .bool x29_12 ∧ Aside0 (spec_ReadBatch.j1 kq a0 t170 x7_1 x29_12 x165000_1 x165001_1 x165002_1 t166 x166001_1 = some (r1,r2,r3)) ∧ Aside0 (kq ≤ k1) ∧ Aside0 (Kd.R k85 85 wc w.heap.size (fun _ => True) u166001 x166001_1) ∧ Aside0 (wc.heap[gb163]? = some (.cells #[.int .i64 0,(.slice none 0 0)] 79 (0,0))) ∧ Aside0 (wc.heap[gb165]? = some (.cells #[.int .i64 t166,u166001] 79 (0,0))) ∧ Aside0 (IsS98 w wc gb164 x165000_1 x165001_1 x165002_1) ∧ Aside0 (Below w.heap.size w wc))
   case first =>
    have H:=HC13.out;clear HC13
    by_cases c14 : x7_1 < t170
    ·rw [if_pos c14] at H;have c14b0 : decide (x7_1 < t170) = true:=de_ c14;clear c14
     (first|rw [c14b0]|(simp only [i64_w,i32_w];rw [c14b0])|skip)
     have H':=A_ H;clear H;obtain ⟨HGz15,hgz15⟩:=HI164.out;have hcz15_0:=cellS98_0 HGz15;have hcz15_1:=cellS98_1 HGz15;have hcz15_2:=cellS98_2 HGz15;have hfz15_0:=kf_ HGz15 0;have hfz15_1:=kf_ HGz15 1;have hfz15_2:=kf_ HGz15 2;clear HGz15 hgz15;go_wp2
     go_meet
     case rel => exact ⟨_,(!x165002_1),(by first|rfl|(simp;done)|(simp [*];done)),H',⟨by have:=HK1.out;first|omega|exact Nat.le_refl _⟩,⟨by (with_reducible repeat (first|apply ra_|apply rn_|apply Rd_));exact HO_166001.out⟩,⟨kq_ BK163⟩,⟨kq_ BK165⟩,⟨iq98_ HI164⟩,⟨bi_ HB (IsS98.ge HI164.out)⟩⟩
    ·rw [if_neg c14] at H;have c14b0 : decide (x7_1 < t170) = false:=decide_eq_false c14;clear c14
     (first|rw [c14b0]|(simp only [i64_w,i32_w];rw [c14b0])|skip)
     have H':=A_ H;clear H;go_wp2
     go_meet
     case rel => exact ⟨_,(false),(by first|rfl|(simp;done)|(simp [*];done)),H',⟨by have:=HK1.out;first|omega|exact Nat.le_refl _⟩,⟨by (with_reducible repeat (first|apply ra_|apply rn_|apply Rd_));exact HO_166001.out⟩,⟨kq_ BK163⟩,⟨kq_ BK165⟩,⟨iq98_ HI164⟩,⟨bi_ HB (IsS98.ge HI164.out)⟩⟩
   case rest =>
    clear HC13
    try clear c1
    try clear p2
    try clear c5
    try clear c6
    try clear c7
    try clear c8
    try clear c14
    try clear c14b0
    try clear hcz11_0
    try clear hcz11_1
    try clear hcz15_0
    try clear hcz15_1
    try clear hcz15_2
    try clear hcz9_0
    try clear hcz9_1
    try clear hfz11_0
    try clear hfz11_1
    try clear hfz15_0
    try clear hfz15_1
    try clear hfz15_2
    try clear hfz9_0
    try clear hfz9_1
    try clear p2
    obtain ⟨kq,x29_12,rfl,HA,HJ12,HO_166001,BK163,BK165,HI164,HB⟩:=hcut
    cases kq with
    | zero => exact absurd HA.out (by simp [spec_ReadBatch.j1])
    | succ kj12 =>
     have H:=HA.out;clear HA;simp only [spec_ReadBatch.j1] at H
     by_cases c16 : x29_12 = true
     ·subst c16
      rw [if_pos rfl] at H;replace H:=ob_.mp H;obtain ⟨⟨t175,t176,t177,t178⟩,A170,H⟩:=H;(try dsimp only at H);have A17:=A_ A170;clear A170;replace H:=ob_.mp H;obtain ⟨⟨t179,t180,t181,t182⟩,A180,H⟩:=H;(try dsimp only at H);have A18:=A_ A180;clear A180;replace H:=ob_.mp H;obtain ⟨⟨t183,t184,t185,t186⟩,A190,H⟩:=H;(try dsimp only at H);have A19:=A_ A190;clear A190
      by_cases c20 : x166001_1.length < 3518437208883
      ·rw [if_pos c20] at H;have LMc20:=A_ c20;clear c20;obtain ⟨y187,hy187⟩ : ∃ y_ : List (S85),y_ = (x166001_1 ++ [(⟨t175,t183,(t179.toList == ([1] : List UInt8))⟩ : S85)]):=⟨_,rfl⟩
       replace H : (spec_ReadBatch.l0 kj12 a0 t170 (wrap64 (x7_1 + 1)) t184 t185 t186 t166 y187) = some (r1,r2,r3):=by first|(rw [hy187];with_reducible exact H)|(have H2_:=(Option.bind_some _ _).symm.trans H;rw [hy187];with_reducible exact H2_)|(have H2_:=(Option.bind_some _ _).symm.trans H;with_reducible exact H2_)|with_reducible exact H|(rw [hy187];exact H)|exact H
       have Ny187:=A_ hy187;clear hy187;have H':=A_ H;clear H
       go_wp2_with (first|((with_reducible refine gate_dst (N:=8) rfl ?_);refine bE_ 8 #[.string (⟨#[]⟩ : ByteArray),.string (⟨#[]⟩ : ByteArray),.bool false] 85 ?_;intro gb174 hg w21 hbox hb;replace HO_166001:=A_ (rb_ (Kd.R_elderB (rq_ HO_166001) gb174 (Nat.le_of_eq hg.symm)) hb);have BK174:=A_ (hbox);have GW174:=A_ ((by rw [hg];exact (bz_ (bi_ HB (IsS98.ge HI164.out))) : w.heap.size ≤ gb174));have GE174:=A_ ((by rw [hg];exact (bz_ (bi_ HB (IsS98.ge HI164.out))) : w.heap.size ≤ gb174));replace HB:=A_ (bs_ (bi_ HB (IsS98.ge HI164.out)) hb);have NB163_174:=nB_ hg BK163;have NB174_163:=nC_ hg BK163;replace BK163:=kB_ BK163 hb;have NB165_174:=nB_ hg BK165;have NB174_165:=nC_ hg BK165;replace BK165:=kB_ BK165 hb;have NB164_174:=A_ ((by rw [hg];exact nl_ (IsS98.lt (show IsS98 w _ gb164 x165000_1 x165001_1 x165002_1 from iq98_ HI164)) : gb164 ≠ gb174));have NB174_164:=A_ ((by rw [hg];exact ng_ (IsS98.lt (show IsS98 w _ gb164 x165000_1 x165001_1 x165002_1 from iq98_ HI164)) : gb174 ≠ gb164));replace HI164:=A_ (IsS98.below (iq98_ HI164) hb);clear hb hbox hg;have hnb22:=NB174_163.out;have hnc22:=NB163_174.out;have hnb23:=NB174_165.out;have hnc23:=NB165_174.out;have hnb24:=NB174_164.out;have hnc24:=NB164_174.out;obtain ⟨hcz25_0,hcz25_1,hcz25_2,hfz25_0,hfz25_1,hfz25_2⟩:=k3f_ BK174)|((with_reducible refine gate_callee (f:=62) rfl ?_);refine gL_ (some 34) Try.func62 #[.pointer (some ⟨gb164,0,none⟩)] ?_;(with_reducible refine (spec_l05ReadShort.calls kj12 gb164 x165000_1 x165001_1 x165002_1 t175 t176 t177 t178 w _ ?side1 ?side2 A17.out).mono ?_);(case side1 => exact iq98_ HI164);(case side2 => exact bi_ HB (IsS98.ge HI164.out));rintro e w26 ⟨rfl,hi,hb,hk⟩;refine ⟨_,rfl,?_⟩;replace HO_166001:=A_ (rm_ (Kd.R_keep (IsS98.apart (show IsS98 w _ gb164 x165000_1 x165001_1 x165002_1 from iq98_ HI164) (by (with_reducible repeat (first|apply ra_|apply rn_|apply Rd_));exact (rm_ (rf_ (p:=⟨gb174,2,none⟩) (rf_ (p:=⟨gb174,1,none⟩) (rf_ (p:=⟨gb174,0,none⟩) (rm_ HO_166001.out (fun k_ hk => (⟨hk,hk.2⟩ : _ ∧ k_ ≠ gb174))) (fun _ hk => hk.2) (.string (⟨#[]⟩ : ByteArray))) (fun _ hk => hk.2) (.string (⟨#[]⟩ : ByteArray))) (fun _ hk => hk.2) (.bool false)) (fun _ h_ => h_.1))) (by decide)) hk (fun _ h => h.2)) (fun _ h => h.1));replace BK163:=A_ (KeepBut.blk hk (g':=gb163) (o:=.cells #[.int .i64 0,.slice none 0 0] 79 (0,0)) (kz_ BK163) NB163_164.out (by simp));replace BK165:=A_ (KeepBut.blk hk (g':=gb165) (o:=.cells #[.int .i64 t166,u166001] 79 (0,0)) (kz_ BK165) NB165_164.out (by simp));replace BK174:=A_ (KeepBut.blk hk (g':=gb174) (o:=.cells #[.string (⟨#[]⟩ : ByteArray),.string (⟨#[]⟩ : ByteArray),.bool false] 85 (0,0)) (kz_ BK174) NB174_164.out (by simp));replace HB:=A_ (hb);replace HI164:=A_ (hi);(try clear hb);(try clear hk);(try clear hi);obtain ⟨hcz27_0,hcz27_1,hcz27_2,hfz27_0,hfz27_1,hfz27_2⟩:=k3f_ BK174)|((with_reducible refine gate_callee (f:=60) rfl ?_);refine gL_ (some 37) Try.func60 #[.pointer (some ⟨gb164,0,none⟩),.int .i64 1] ?_;(with_reducible refine (spec_l05Take.calls gb164 t176 t177 t178 1 t179 t180 t181 t182 w _ ?side1 ?side2 A18.out).mono ?_);(case side1 => exact iq98_ HI164);(case side2 => exact bi_ HB (IsS98.ge HI164.out));rintro e w28 ⟨rfl,hi,hb,hk⟩;refine ⟨_,rfl,?_⟩;replace HO_166001:=A_ (rm_ (Kd.R_keep (IsS98.apart (show IsS98 w _ gb164 t176 t177 t178 from iq98_ HI164) (by (with_reducible repeat (first|apply ra_|apply rn_|apply Rd_));exact (rm_ (rf_ (p:=⟨gb174,0,none⟩) (rm_ HO_166001.out (fun k_ hk => (⟨hk,hk.2⟩ : _ ∧ k_ ≠ gb174))) (fun _ hk => hk.2) (.string t175)) (fun _ h_ => h_.1))) (by decide)) hk (fun _ h => h.2)) (fun _ h => h.1));replace BK163:=A_ (KeepBut.blk hk (g':=gb163) (o:=.cells #[.int .i64 0,.slice none 0 0] 79 (0,0)) (kz_ BK163) NB163_164.out (by simp));replace BK165:=A_ (KeepBut.blk hk (g':=gb165) (o:=.cells #[.int .i64 t166,u166001] 79 (0,0)) (kz_ BK165) NB165_164.out (by simp));replace BK174:=A_ (KeepBut.blk hk (g':=gb174) (o:=.cells #[.string t175,.string (⟨#[]⟩ : ByteArray),.bool false] 85 (0,0)) (kz_ BK174) NB174_164.out (by simp));replace HB:=A_ (hb);replace HI164:=A_ (hi);(try clear hb);(try clear hk);(try clear hi);obtain ⟨hcz29_0,hcz29_1,hcz29_2,hfz29_0,hfz29_1,hfz29_2⟩:=k3f_ BK174)|((with_reducible refine gate_callee (f:=62) rfl ?_);refine gL_ (some 41) Try.func62 #[.pointer (some ⟨gb164,0,none⟩)] ?_;(with_reducible refine (spec_l05ReadShort.calls kj12 gb164 t180 t181 t182 t183 t184 t185 t186 w _ ?side1 ?side2 A19.out).mono ?_);(case side1 => exact iq98_ HI164);(case side2 => exact bi_ HB (IsS98.ge HI164.out));rintro e w30 ⟨rfl,hi,hb,hk⟩;refine ⟨_,rfl,?_⟩;replace HO_166001:=A_ (rm_ (Kd.R_keep (IsS98.apart (show IsS98 w _ gb164 t180 t181 t182 from iq98_ HI164) (by (with_reducible repeat (first|apply ra_|apply rn_|apply Rd_));exact (rm_ (rf_ (p:=⟨gb174,2,none⟩) (rm_ HO_166001.out (fun k_ hk => (⟨hk,hk.2⟩ : _ ∧ k_ ≠ gb174))) (fun _ hk => hk.2) (.bool (t179.toList == ([1] : List UInt8)))) (fun _ h_ => h_.1))) (by decide)) hk (fun _ h => h.2)) (fun _ h => h.1));replace BK163:=A_ (KeepBut.blk hk (g':=gb163) (o:=.cells #[.int .i64 0,.slice none 0 0] 79 (0,0)) (kz_ BK163) NB163_164.out (by simp));replace BK165:=A_ (KeepBut.blk hk (g':=gb165) (o:=.cells #[.int .i64 t166,u166001] 79 (0,0)) (kz_ BK165) NB165_164.out (by simp));replace BK174:=A_ (KeepBut.blk hk (g':=gb174) (o:=.cells #[.string t175,.string (⟨#[]⟩ : ByteArray),.bool (t179.toList == ([1] : List UInt8))] 85 (0,0)) (kz_ BK174) NB174_164.out (by simp));replace HB:=A_ (hb);replace HI164:=A_ (hi);(try clear hb);(try clear hk);(try clear hi);obtain ⟨hcz31_0,hcz31_1,hcz31_2,hfz31_0,hfz31_1,hfz31_2⟩:=k3f_ BK174;have hnb32:=NB165_163.out;have hnc32:=NB163_165.out;have hnb33:=NB165_164.out;have hnc33:=NB164_165.out;obtain ⟨hcz34_0,hcz34_1,hfz34_0,hfz34_1⟩:=k2f_ BK165)|((with_reducible refine gate_builtin (b:=.append) (xs:=#[.tmp 44,.tmp 46]) rfl ?_);at_builtin;refine Kd.R_append k85 (w0:=w) w.heap.size rfl (.tmp 44) (.tmp 46) 77 85 (.agg #[(.string ⟨#[]⟩),(.string ⟨#[]⟩),(.bool false)]) 40 rfl Try.underlying77 info85 rfl (by decide) (by omega) u166001 x166001_1 (⟨t175,t183,(t179.toList == ([1] : List UInt8))⟩ : S85) [.string t175,.string t183,.bool (t179.toList == ([1] : List UInt8))] (fun k_ => k_ ≠ gb174) (fun _ => False) rfl (by first|(go_simp;done)|(go_simp;rfl)) ?aP (fun _ hk => hk.elim) ?aF ?aO ?aB ?aS ?aL ?_;(case aP => exact k85_mkM _ _ _ (⟨t175,t183,(t179.toList == ([1] : List UInt8))⟩ : S85));(case aB => exact (bi_ HB (IsS98.ge HI164.out)));(case aF => exact (fun k_ hk => Kd.freshB (g:=gb174) (o:=.cells #[.string t175,.string t183,.bool (t179.toList == ([1] : List UInt8))] 85 (0,0)) (kz_ BK174) k_ hk));(case aO => exact (by (with_reducible repeat (first|apply ra_|apply rn_|apply Rd_));exact rm_ (rf_ (p:=⟨gb174,1,none⟩) (rm_ HO_166001.out (fun k_ hk => (⟨hk,hk.2⟩ : _ ∧ k_ ≠ gb174))) (fun _ hk => hk.2) (.string t183)) (fun _ hk => hk.1.2)));(case aS => exact (bz_ (bi_ HB (IsS98.ge HI164.out))));(case aL => have:=LMc20.out;omega);intro v188 w35 ho hb hg hat;rw [← Ny187.out] at ho;replace BK163:=A_ (kg_ (g:=gb163) (o:=.cells #[.int .i64 0,.slice none 0 0] 79 (0,0)) (kz_ BK163) hg (re_ HO_166001.out BK163.out (by decide)));replace BK165:=A_ (kg_ (g:=gb165) (o:=.cells #[.int .i64 t166,u166001] 79 (0,0)) (kz_ BK165) hg (re_ HO_166001.out BK165.out (by decide)));replace HI164:=A_ (IsS98.grown (IsS98.far HI164.out NB164_174.out _) hg (IsS98.own_ne HI164.out HO_166001.out (by decide)));replace BK174:=A_ (kg_ (g:=gb174) (o:=.cells #[.string t175,.string t183,.bool (t179.toList == ([1] : List UInt8))] 85 (0,0)) (kz_ BK174) hg (Kd.R_away HO_166001.out (fun _ hk => hk.2)));replace HB:=A_ (hb);have HO189:=A_ (ho);clear HO_166001;clear ho hb hg hat;obtain ⟨Ao36,co36,eo36⟩:=Kd.R_slice HO189.out;subst eo36;obtain ⟨hcz37_0,hcz37_1,hfz37_0,hfz37_1⟩:=k2f_ BK165))
       go_roundg kj12
       case measure => have:=HK1.out;have:=HJ12.out;omega
       case rel => exact ⟨(wrap64 (x7_1 + 1)),(t184),(t185),(t186),(y187),(.slice Ao36 y187.length co36),(by first|rfl|(simp;done)|(simp [*];done)),H',⟨by have:=HK1.out;have:=HJ12.out;omega⟩,⟨by (with_reducible repeat (first|apply ra_|apply rn_|apply Rd_));exact rm_ (rf_ (p:=⟨gb165,1,none⟩) (Kd.R_types HO189.out BK165.out (by decide)) (fun _ hk => hk.2) (.slice Ao36 y187.length co36)) (fun _ hk => trivial)⟩,⟨kz_ BK163⟩,⟨kz_ BK165⟩,⟨iq98_ HI164⟩,⟨bi_ HB (IsS98.ge HI164.out)⟩⟩
      ·rw [if_neg c20] at H;exact absurd H (by simp)
     ·replace c16:=Bool.eq_false_iff.mpr c16;subst c16
      have H1 : ((spec_BatchText.f kj12 t166 x166001_1).bind fun bt190 => (if x165002_1 = true then (some (0,([] : List (S85)),false)) else (if bt190.2 = true then (if bt190.1.toList = a0.toList then (some (t166,x166001_1,true)) else (some (0,([] : List (S85)),false))) else (some (0,([] : List (S85)),false))))) = some (r1,r2,r3):=by rw [if_neg (show ¬ (false = true) by decide)] at H;exact H
      clear H;have H:=H1;clear H1;replace H:=ob_.mp H;obtain ⟨⟨t190,t191⟩,A380,H⟩:=H;(try dsimp only at H);have A38:=A_ A380;clear A380
      by_cases c39 : x165002_1 = true
      ·subst c39
       rw [if_pos rfl] at H;simp only [Option.some.injEq,Prod.mk.injEq] at H;obtain ⟨rfl,rfl,rfl⟩:=H;have hnb40:=NB165_163.out;have hnc40:=NB163_165.out;have hnb41:=NB165_164.out;have hnc41:=NB164_165.out;obtain ⟨hcz42_0,hcz42_1,hfz42_0,hfz42_1⟩:=k2f_ BK165;obtain ⟨Ao43,co43,eo43⟩:=Kd.R_slice HO_166001.out;subst eo43
       go_wp2_with (first|((with_reducible refine gate_callee (f:=102) rfl ?_);refine gL_ (some 51) Try.func102 #[.agg #[.int .i64 t166,.slice Ao43 x166001_1.length co43]] ?_;(with_reducible refine (spec_BatchText.calls kj12 t166 _ _ x166001_1 t190 t191 _ ?side1 ?side2 A38.out).mono ?_);(case side1 => repeat (first|exact (Kd.R_reads' HO_166001.out).2.2|(with_reducible refine Kd.C_alloc ?_ _)|(with_reducible refine Kd.C_drewN ?_ _)|(with_reducible refine Kd.C_drew ?_)));(case side2 => exact (Kd.R_reads' HO_166001.out).2.1);rintro e w44 ⟨rfl,hb⟩;refine ⟨_,rfl,?_⟩;replace HO_166001:=rB_ HO_166001 hb;replace BK163:=kB_ BK163 hb;replace BK165:=kB_ BK165 hb;replace HB:=A_ (bs_ (bi_ HB (IsS98.ge HI164.out)) hb);replace HI164:=A_ (IsS98.below (iq98_ HI164) hb);(try clear hb);obtain ⟨HGz45,hgz45⟩:=HI164.out;have hcz45_0:=cellS98_0 HGz45;have hcz45_1:=cellS98_1 HGz45;have hcz45_2:=cellS98_2 HGz45;have hfz45_0:=kf_ HGz45 0;have hfz45_1:=kf_ HGz45 1;have hfz45_2:=kf_ HGz45 2;clear HGz45 hgz45;have hnb46:=NB163_164.out;have hnc46:=NB164_163.out;obtain ⟨hcz47_0,hcz47_1,hfz47_0,hfz47_1⟩:=k2f_ BK163))
       refine bodyPost_ret (results_ct rfl _ _ gb163 79 #[.int .i64 0,.slice none 0 0] (0,0) _ rfl (kz_ BK163) Try.underlying79 rfl (by kernel_rfl)) rfl ?_;exact ⟨_,by first|rfl|(simp [*,errW_none,errW_some] <;> rfl),by first|exact Kd.R_nil _ _ _ _ _|exact Kd.N_nil _ _ _ _ _|exact Kd.V_nil _ _ _ _ _|exact Kd.Q_nil _ _ _ _ _|exact Kd.S_nil _ _ _ _ _,bi_ HB (IsS98.ge HI164.out)⟩
      ·replace c39:=Bool.eq_false_iff.mpr c39;subst c39
       have H1 : (if t191 = true then (if t190.toList = a0.toList then (some (t166,x166001_1,true)) else (some (0,([] : List (S85)),false))) else (some (0,([] : List (S85)),false))) = some (r1,r2,r3):=by rw [if_neg (show ¬ (false = true) by decide)] at H;exact H
       clear H;have H:=H1;clear H1
       by_cases c48 : t191 = true
       ·subst c48
        rw [if_pos rfl] at H
        by_cases c49 : t190.toList = a0.toList
        ·rw [if_pos c49] at H;have c49b0 : (t190.toList == a0.toList) = true:=beq_iff_eq.mpr c49;have c49b1 : (t190.toList != a0.toList) = false:=bne_eq_false_iff_eq.mpr c49;clear c49;simp only [Option.some.injEq,Prod.mk.injEq] at H;obtain ⟨rfl,rfl,rfl⟩:=H;have hnb50:=NB165_163.out;have hnc50:=NB163_165.out;have hnb51:=NB165_164.out;have hnc51:=NB164_165.out;obtain ⟨hcz52_0,hcz52_1,hfz52_0,hfz52_1⟩:=k2f_ BK165;obtain ⟨Ao53,co53,eo53⟩:=Kd.R_slice HO_166001.out;subst eo53
         go_wp2_with (first|((with_reducible refine gate_callee (f:=102) rfl ?_);refine gL_ (some 51) Try.func102 #[.agg #[.int .i64 t166,.slice Ao53 x166001_1.length co53]] ?_;(with_reducible refine (spec_BatchText.calls kj12 t166 _ _ x166001_1 t190 true _ ?side1 ?side2 A38.out).mono ?_);(case side1 => repeat (first|exact (Kd.R_reads' HO_166001.out).2.2|(with_reducible refine Kd.C_alloc ?_ _)|(with_reducible refine Kd.C_drewN ?_ _)|(with_reducible refine Kd.C_drew ?_)));(case side2 => exact (Kd.R_reads' HO_166001.out).2.1);rintro e w54 ⟨rfl,hb⟩;refine ⟨_,rfl,?_⟩;replace HO_166001:=rB_ HO_166001 hb;replace BK163:=kB_ BK163 hb;replace BK165:=kB_ BK165 hb;replace HB:=A_ (bs_ (bi_ HB (IsS98.ge HI164.out)) hb);replace HI164:=A_ (IsS98.below (iq98_ HI164) hb);(try clear hb);obtain ⟨HGz55,hgz55⟩:=HI164.out;have hcz55_0:=cellS98_0 HGz55;have hcz55_1:=cellS98_1 HGz55;have hcz55_2:=cellS98_2 HGz55;have hfz55_0:=kf_ HGz55 0;have hfz55_1:=kf_ HGz55 1;have hfz55_2:=kf_ HGz55 2;clear HGz55 hgz55;obtain ⟨hcz56_0,hcz56_1,hfz56_0,hfz56_1⟩:=k2f_ BK165;have hnb57:=NB163_164.out;have hnc57:=NB164_163.out;obtain ⟨hcz58_0,hcz58_1,hfz58_0,hfz58_1⟩:=k2f_ BK163))
         refine bodyPost_ret (results_ct rfl _ _ gb163 79 #[.int .i64 t166,.slice Ao53 x166001_1.length co53] (0,0) _ rfl (kz_ BK163) Try.underlying79 rfl (by kernel_rfl)) rfl ?_;exact ⟨_,by first|rfl|(simp [*,errW_none,errW_some] <;> rfl),by (with_reducible repeat (first|apply ra_|apply rn_|apply Rd_));exact rm_ (rf_ (p:=⟨gb163,1,none⟩) (rf_ (p:=⟨gb163,0,none⟩) (Kd.R_types HO_166001.out BK163.out (by decide)) (fun _ hk => hk.2) (.int .i64 t166)) (fun _ hk => hk.2) (.slice Ao53 x166001_1.length co53)) (fun _ hk => trivial),bi_ HB (IsS98.ge HI164.out)⟩
        ·rw [if_neg c49] at H;have c49b0 : (t190.toList == a0.toList) = false:=beq_eq_false_iff_ne.mpr c49;have c49b1 : (t190.toList != a0.toList) = true:=bne_iff_ne.mpr c49;simp only [Option.some.injEq,Prod.mk.injEq] at H;obtain ⟨rfl,rfl,rfl⟩:=H;have hnb59:=NB165_163.out;have hnc59:=NB163_165.out;have hnb60:=NB165_164.out;have hnc60:=NB164_165.out;obtain ⟨hcz61_0,hcz61_1,hfz61_0,hfz61_1⟩:=k2f_ BK165;obtain ⟨Ao62,co62,eo62⟩:=Kd.R_slice HO_166001.out;subst eo62
         go_wp2_with (first|((with_reducible refine gate_callee (f:=102) rfl ?_);refine gL_ (some 51) Try.func102 #[.agg #[.int .i64 t166,.slice Ao62 x166001_1.length co62]] ?_;(with_reducible refine (spec_BatchText.calls kj12 t166 _ _ x166001_1 t190 true _ ?side1 ?side2 A38.out).mono ?_);(case side1 => repeat (first|exact (Kd.R_reads' HO_166001.out).2.2|(with_reducible refine Kd.C_alloc ?_ _)|(with_reducible refine Kd.C_drewN ?_ _)|(with_reducible refine Kd.C_drew ?_)));(case side2 => exact (Kd.R_reads' HO_166001.out).2.1);rintro e w63 ⟨rfl,hb⟩;refine ⟨_,rfl,?_⟩;replace HO_166001:=rB_ HO_166001 hb;replace BK163:=kB_ BK163 hb;replace BK165:=kB_ BK165 hb;replace HB:=A_ (bs_ (bi_ HB (IsS98.ge HI164.out)) hb);replace HI164:=A_ (IsS98.below (iq98_ HI164) hb);(try clear hb);obtain ⟨HGz64,hgz64⟩:=HI164.out;have hcz64_0:=cellS98_0 HGz64;have hcz64_1:=cellS98_1 HGz64;have hcz64_2:=cellS98_2 HGz64;have hfz64_0:=kf_ HGz64 0;have hfz64_1:=kf_ HGz64 1;have hfz64_2:=kf_ HGz64 2;clear HGz64 hgz64;have hnb65:=NB163_164.out;have hnc65:=NB164_163.out;obtain ⟨hcz66_0,hcz66_1,hfz66_0,hfz66_1⟩:=k2f_ BK163))
         refine bodyPost_ret (results_ct rfl _ _ gb163 79 #[.int .i64 0,.slice none 0 0] (0,0) _ rfl (kz_ BK163) Try.underlying79 rfl (by kernel_rfl)) rfl ?_;exact ⟨_,by first|rfl|(simp [*,errW_none,errW_some] <;> rfl),by first|exact Kd.R_nil _ _ _ _ _|exact Kd.N_nil _ _ _ _ _|exact Kd.V_nil _ _ _ _ _|exact Kd.Q_nil _ _ _ _ _|exact Kd.S_nil _ _ _ _ _,bi_ HB (IsS98.ge HI164.out)⟩
       ·replace c48:=Bool.eq_false_iff.mpr c48;subst c48
        have H1 : (some (0,([] : List (S85)),false)) = some (r1,r2,r3):=by rw [if_neg (show ¬ (false = true) by decide)] at H;exact H
        clear H;have H:=H1;clear H1;simp only [Option.some.injEq,Prod.mk.injEq] at H;obtain ⟨rfl,rfl,rfl⟩:=H;have hnb67:=NB165_163.out;have hnc67:=NB163_165.out;have hnb68:=NB165_164.out;have hnc68:=NB164_165.out;obtain ⟨hcz69_0,hcz69_1,hfz69_0,hfz69_1⟩:=k2f_ BK165;obtain ⟨Ao70,co70,eo70⟩:=Kd.R_slice HO_166001.out;subst eo70
        go_wp2_with (first|((with_reducible refine gate_callee (f:=102) rfl ?_);refine gL_ (some 51) Try.func102 #[.agg #[.int .i64 t166,.slice Ao70 x166001_1.length co70]] ?_;(with_reducible refine (spec_BatchText.calls kj12 t166 _ _ x166001_1 t190 false _ ?side1 ?side2 A38.out).mono ?_);(case side1 => repeat (first|exact (Kd.R_reads' HO_166001.out).2.2|(with_reducible refine Kd.C_alloc ?_ _)|(with_reducible refine Kd.C_drewN ?_ _)|(with_reducible refine Kd.C_drew ?_)));(case side2 => exact (Kd.R_reads' HO_166001.out).2.1);rintro e w71 ⟨rfl,hb⟩;refine ⟨_,rfl,?_⟩;replace HO_166001:=rB_ HO_166001 hb;replace BK163:=kB_ BK163 hb;replace BK165:=kB_ BK165 hb;replace HB:=A_ (bs_ (bi_ HB (IsS98.ge HI164.out)) hb);replace HI164:=A_ (IsS98.below (iq98_ HI164) hb);(try clear hb);obtain ⟨HGz72,hgz72⟩:=HI164.out;have hcz72_0:=cellS98_0 HGz72;have hcz72_1:=cellS98_1 HGz72;have hcz72_2:=cellS98_2 HGz72;have hfz72_0:=kf_ HGz72 0;have hfz72_1:=kf_ HGz72 1;have hfz72_2:=kf_ HGz72 2;clear HGz72 hgz72;have hnb73:=NB163_164.out;have hnc73:=NB164_163.out;obtain ⟨hcz74_0,hcz74_1,hfz74_0,hfz74_1⟩:=k2f_ BK163))
        refine bodyPost_ret (results_ct rfl _ _ gb163 79 #[.int .i64 0,.slice none 0 0] (0,0) _ rfl (kz_ BK163) Try.underlying79 rfl (by kernel_rfl)) rfl ?_;exact ⟨_,by first|rfl|(simp [*,errW_none,errW_some] <;> rfl),by first|exact Kd.R_nil _ _ _ _ _|exact Kd.N_nil _ _ _ _ _|exact Kd.V_nil _ _ _ _ _|exact Kd.Q_nil _ _ _ _ _|exact Kd.S_nil _ _ _ _ _,bi_ HB (IsS98.ge HI164.out)⟩
end Go.Proofs.Ytbcgnncbiblibaa.PFnExactScanSeg
