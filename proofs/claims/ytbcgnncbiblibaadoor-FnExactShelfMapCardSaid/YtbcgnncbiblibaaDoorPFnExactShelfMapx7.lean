/- The contracts of the Go functions that this law reaches: what each call returns, by a plain Lean function of its arguments. No conditions but those each contract names. By the kit's print.py, run by this session's wip/gen/pp.py with facts and hand proofs beside it: not to the letter what print.sh prints. -/
import Derived.Test.YtbcgnncbiblibaaDoorPFnExactShelfMapx0
import Derived.Test.YtbcgnncbiblibaaDoorPFnExactShelfMapx2
import Derived.Test.YtbcgnncbiblibaaDoorPFnExactShelfMapx6
namespace Go.Proofs.YtbcgnncbiblibaaDoor.PFnExactShelfMap
open Go.RowKit Go.Proofs.YtbcgnncbiblibaaDoorW.PrintWords Go.Proofs.YtbcgnncbiblibaaDoorW.PrintLast Go.Proofs.YtbcgnncbiblibaaDoorW.PrintMore
attribute [local go_sem] max2_int min2_int max_two min_two max_three min_three max_four min_four
set_option linter.unusedVariables false
set_option linter.unusedSimpArgs false
def impl_DirOk.l0 : Nat → List (S71) → List (S71) → Int → Int → Option (Bool)
 | 0,_,_,_,_ => none
 | k + 1,x0,x5,x6,x7 => if x7 < x6 then (if 0 ≤ x7 then (if x7 < (x5.length : Int) then ((impl_keyOk.f ((rd_T71 x5 x7).f0)).bind fun t249 => (if t249 = true then ((impl_within.f ((rd_T71 x5 x7).f1) 0 999).bind fun t250 => (if t250 = true then ((impl_within.f ((rd_T71 x5 x7).f2) 0 20000).bind fun t251 => (if t251 = true then ((impl_within.f ((rd_T71 x5 x7).f3) 0 40).bind fun t252 => (if t252 = true then (if x7 > 0 then (if 0 ≤ (wrap64 (x7 - 1)) then (if (wrap64 (x7 - 1)) < (x0.length : Int) then (if ((Op.bytesLess (((rd_T71 x0 (wrap64 (x7 - 1))).f0).toList) (((rd_T71 x5 x7).f0).toList)) = true) then (impl_DirOk.l0 k x0 x5 x6 (wrap64 (x7 + 1))) else (some false)) else (none)) else (none)) else (impl_DirOk.l0 k x0 x5 x6 (wrap64 (x7 + 1)))) else (some false))) else (some false))) else (some false))) else (some false))) else (none)) else (none)) else (some (decide ((x0.length : Int) ≤ 60)))
def impl_DirOk.f (k : Nat) (l0 : List (S71)) : Option (Bool) := impl_DirOk.l0 k l0 l0 (l0.length : Int) 0
theorem impl_DirOk.mono_l : ∀ k, (∀ y0 y1 y2 y3, LeO (impl_DirOk.l0 k y0 y1 y2 y3) (impl_DirOk.l0 (k + 1) y0 y1 y2 y3))
 | 0 => fun _ _ _ _ r h => by simp [impl_DirOk.l0] at h
 | k + 1 => by
  have ih0:=impl_DirOk.mono_l k
  ·intro y0 y1 y2 y3
   unfold impl_DirOk.l0
   repeat' first
   | (with_reducible exact ih0 _ _ _ _)
   | (with_reducible exact LeO.refl _)
   | (with_reducible exact LeO.none _)
   | (with_reducible refine LeO.ite ?_ ?_)
   | (with_reducible refine LeO.bind ?_ (fun _ => ?_))
theorem impl_DirOk.mono : ∀ a0 k, LeO (impl_DirOk.f k a0) (impl_DirOk.f (k + 1) a0) := by
 intro a0 k;have ih0:=impl_DirOk.mono_l k
 unfold impl_DirOk.f
 repeat' first
   | (with_reducible exact ih0 _ _ _ _)
   | (with_reducible exact LeO.refl _)
   | (with_reducible exact LeO.none _)
   | (with_reducible refine LeO.ite ?_ ?_)
   | (with_reducible refine LeO.bind ?_ (fun _ => ?_))
set_option maxHeartbeats 8000000 in
set_option maxRecDepth 100000 in
theorem impl_DirOk.calls (k : Nat) (A0 : Option Addr) (c0 : Nat) (l0 : List (S71)) (r : Bool) (w : World) (hr0 : Kd.C k71 w A0 l0.length l0) (hc0 : l0.length ≤ c0) (h : impl_DirOk.f k l0 = some r) :
  Calls Tryd.prog 41 #[.slice A0 l0.length c0] w fun e w' => e = .returned (.bool r) ∧ Below w.heap.size w w':=by
 have hu71:=Tryd.underlying71;have HR:=A_ hr0;have HL:=A_ (Kd.C_max hr0);have HB:=A_ (Below.refl w.heap.size w)
 unfold impl_DirOk.f at h
 have H:=A_ h;clear h hr0 hc0;go_enter Tryd.func41,Tryd.ntmps41;go_wp2
 go_loopg [7] k (fun kq vq w' => ∃ xq : Int,vq = .int .i64 xq ∧ Aside0 (impl_DirOk.l0 kq l0 l0 (l0.length : Int) xq = some r) ∧ Aside0 (kq ≤ k) ∧ Aside0 (Below w.heap.size w w'))
 case atStart => exact ⟨0,rfl,H,⟨Nat.le_refl _⟩,HB⟩
 case round =>
  clear H HB;obtain ⟨xq,rfl,HA,HK,HB⟩:=hrel
  rcases gk with _|k1
  ·exact absurd HA.out (by simp [impl_DirOk.l0])
  have H:=HA.out;clear HA;simp only [impl_DirOk.l0,impl_within.val,impl_keyOk.val,Option.bind_some] at H
  by_cases d1 : xq < (l0.length : Int)
  ·rw [if_pos d1] at H
   by_cases d2 : 0 ≤ xq
   ·rw [if_pos d2] at H;obtain ⟨ad,e,hx_0,hx_1,hx_2,hx_3⟩:=at_T71 (Kd.C_below HR.out HB.out) xq d2 d1
    cases e
    obtain ⟨mq,rfl⟩ : ∃ n : Nat,xq = n:=⟨xq.toNat,by omega⟩;rw [Int.toNat_natCast] at hx_0 hx_1 hx_2 hx_3;obtain ⟨y,hy⟩ : ∃ y,y = rd_T71 l0 (mq : Int):=⟨_,rfl⟩;rw [← hy] at hx_0 hx_1 hx_2 hx_3;simp only [← hy,if_pos d1] at H;clear hy;have H':=A_ H;clear H
    by_cases d3 : (mq : Int) > 0
    ·obtain ⟨ad2,e2,hz_0,-,-,-⟩:=at_T71 (Kd.C_below HR.out HB.out) ((mq : Int) - 1) (by omega) (by omega)
     cases e2
     have d5 : (0 : Int) ≤ (mq : Int) - 1:=by omega
     have d9 : 0 < mq:=by omega
     have d12 : ((mq : Int) - 1).toNat = mq - 1:=by omega
     have d14 : (1 : Int) ≤ (mq : Int):=by omega
     have d13 : mq - 1 < l0.length:=by omega
     rw [d12] at hz_0
     have d10 : IntKind.i64.wrap ((mq : Int) - 1) = (mq : Int) - 1:=by rw [IntKind.wrap_i64];have:=HL.out;omega
     have d6 : (mq : Int) - 1 < (l0.length : Int):=by omega
     obtain ⟨z,hz⟩ : ∃ z,z = rd_T71 l0 ((mq : Int) - 1):=⟨_,rfl⟩;rw [← hz] at hz_0
     have hz_1 : ∀ o,(wr.alloc o).cell? (ad.add ((mq - 1) * 4)) = some (.string z.f0):=fun o => pw_cell_below (pa_ (Below.refl _ _) o) hz_0
     have Z:=A_ hz;clear hz
     rcases bt_ (wB (y.f0.size : Int) 1 10) with b0|b0
     rcases bt_ (wB y.f1 0 999) with b1|b1
     rcases bt_ (wB y.f2 0 20000) with b2|b2
     rcases bt_ (wB y.f3 0 40) with b3|b3
     rcases bt_ (Op.bytesLess z.f0.toList y.f0.toList) with b4|b4
     all_goals
      go_wp2
      go_quiet ((first|exact Calls.quiet_of_same (impl_keyOk.quiet _ _)|exact Calls.quiet_of_same (impl_within.quiet _ _ _ _)))
      go_wp2;have H:=H'.out;simp only [← Z.out,show wrap64 ((mq : Int) - 1) = (mq : Int) - 1 by unfold wrap64;have:=HL.out;omega,if_pos (show (mq : Int) > 0 by omega),if_pos d5,if_pos d6,if_false,if_true,Bool.false_eq_true, *] at H
      first
       | (go_ret;obtain rfl:=Option.some.inj H;exact ⟨rfl,bs_ (pa_ HB.out _) (pn_ (Below.refl _ _) _)⟩)
       | (go_roundg k1;(case measure => omega);(case rel => exact ⟨_,rfl,⟨by first|exact H|(rw [← w64_ (show (mq : Int) + 1 ≤ 9223372036854775807 by have:=HL.out;omega) (by omega)];exact H)⟩,⟨by have:=HK.out;omega⟩,⟨bs_ (pa_ HB.out _) (pn_ (Below.refl _ _) _)⟩⟩))
    ·have d9 : ¬ 0 < mq:=by omega
     rcases bt_ (wB (y.f0.size : Int) 1 10) with b0|b0
     rcases bt_ (wB y.f1 0 999) with b1|b1
     rcases bt_ (wB y.f2 0 20000) with b2|b2
     rcases bt_ (wB y.f3 0 40) with b3|b3
     all_goals
      go_wp2
      go_quiet ((first|exact Calls.quiet_of_same (impl_keyOk.quiet _ _)|exact Calls.quiet_of_same (impl_within.quiet _ _ _ _)))
      go_wp2;have H:=H'.out;simp only [if_neg (show ¬ ((mq : Int) > 0) by omega),if_false,if_true,Bool.false_eq_true, *] at H
      first
       | (go_ret;obtain rfl:=Option.some.inj H;exact ⟨rfl,bs_ (pa_ HB.out _) (pn_ (Below.refl _ _) _)⟩)
       | (go_roundg k1;(case measure => omega);(case rel => exact ⟨_,rfl,⟨by first|exact H|(rw [← w64_ (show (mq : Int) + 1 ≤ 9223372036854775807 by have:=HL.out;omega) (by omega)];exact H)⟩,⟨by have:=HK.out;omega⟩,⟨bs_ (pa_ HB.out _) (pn_ (Below.refl _ _) _)⟩⟩))
   ·rw [if_neg d2] at H;cases H
  ·rw [if_neg d1] at H;obtain rfl:=Option.some.inj H;have d8 : ¬ ((l0.length : Int) > xq):=d1;go_wp2;go_ret;exact ⟨rfl,HB.out⟩
set_option maxRecDepth 100000 in
theorem strcmp0_calls (a b : ByteArray) (w : World) : Calls Tryd.prog 87 #[.string a, .string b] w fun e w' => e = .returned (.int .i64 (Lib.compareBytes a.data.toList b.data.toList)) ∧ w = w' := by
 go_enter Tryd.func87,Tryd.ntmps87;go_wp2;rw [run_callFunc_extern Tryd.func89 (by kernel_rfl) (by kernel_rfl) (by kernel_rfl) (e:=Extern.BytealgCompare.compare) (by kernel_rfl),Lib.run_compareString];simp only [Result.andThen];rw [Oper.upon_value];go_wp2;go_ret;exact ⟨rfl,rfl⟩
theorem strcmp_calls (a b : ByteArray) (w : World) : Calls Tryd.prog 83 #[.string a, .string b] w fun e w' => e = .returned (.int .i64 (Lib.compareBytes a.data.toList b.data.toList)) ∧ w = w' := by
 go_enter Tryd.func83,Tryd.ntmps83
 go_wp2_with (go_at_call 87;refine (strcmp0_calls _ _ _).mono ?_;rintro e w' ⟨rfl,rfl⟩)
 go_ret;exact ⟨rfl,rfl⟩
theorem strcmp_range : ∀ (a b : List UInt8), -1 ≤ Lib.compareBytes a b ∧ Lib.compareBytes a b ≤ 1
 | [],[] => by simp [Lib.compareBytes]
 | [],_ :: _ => by simp [Lib.compareBytes]
 | _ :: _,[] => by simp [Lib.compareBytes]
 | a :: r,b :: s => by
  unfold Lib.compareBytes
  have:=strcmp_range r s
  split
  ·omega
  ·split <;> omega
def aheadN {α : Type} (cf : α → Int) (xs : List α) : Nat := xs.countP (fun x => decide (cf x < 0))
theorem aheadN_le {α : Type} (cf : α → Int) (xs : List α) : aheadN cf xs ≤ xs.length := List.countP_le_length
theorem aheadN_eq {α : Type} (cf : α → Int) : ∀ (l : List α) (i : Nat), i ≤ l.length → (∀ t x, t < i → l[t]? = some x → cf x < 0) → (∀ t x, i ≤ t → l[t]? = some x → 0 ≤ cf x) → aheadN cf l = i
 | [],i,hi,_,_ => by simp at hi;simp [hi,aheadN]
 | a :: r,0,_,_,h2 => by
  unfold aheadN
  rw [List.countP_eq_zero];intro x hx;obtain ⟨t,ht,rfl⟩:=List.getElem_of_mem hx;have:=h2 t _ (Nat.zero_le _) (List.getElem?_eq_getElem ht)
  simp;omega
 | a :: r,i + 1,hi,h1,h2 => by
  have ha:=h1 0 a (Nat.succ_pos _) rfl;have ih:=aheadN_eq cf r i (by simpa using hi) (fun t x ht hx => h1 (t + 1) x (by omega) (by simpa using hx)) (fun t x h3 hx => h2 (t + 1) x (by omega) (by simpa using hx))
  unfold aheadN at ih ⊢
  rw [List.countP_cons_of_pos (by simpa using ha),ih]
def stands {α : Type} (cf : α → Int) (xs : List α) : Bool := match xs[aheadN cf xs]? with | some x => decide (cf x = 0) | none => false
theorem mono_of {α : Type} {p : α → Prop} {xs : List α} (h : xs.Pairwise fun x y => p y → p x) {a b : Nat} {x y : α} (hab : a ≤ b) (hx : xs[a]? = some x) (hy : xs[b]? = some y) : p y → p x := by
 rcases Nat.lt_or_eq_of_le hab with hlt|rfl
 ·obtain ⟨h1,rfl⟩:=List.getElem?_eq_some_iff.mp hx;obtain ⟨h2,rfl⟩:=List.getElem?_eq_some_iff.mp hy;exact List.pairwise_iff_getElem.mp h a b h1 h2 hlt
 ·rw [hx] at hy;injection hy with e;rw [e];exact id
set_option maxHeartbeats 4000000 in
set_option maxRecDepth 1000000 in
theorem bsf_calls62 (cf : S62 → Int) (g : Nat) (key : ByteArray) (cb : Array Value) (hcmp : ∀ (W : World) (x : S62), Calls Tryd.prog g (#[.agg #[.string x.f0, .string x.f1], .string key] ++ cb) W fun e w' => e = .returned (.int .i64 (cf x)) ∧ Below W.heap.size W w') (hcf : ∀ x, -1 ≤ cf x ∧ cf x ≤ 1)
  (eg : ∀ args w,(callFunc g args).run Tryd.prog w = .ok (.enter g args) w)
  (W : World) (A : Option Addr) (c : Nat) (xs : List S62) (h : Kd.C k62 W A xs.length xs) (hsz : xs.length < 4611686018427387904) (hmono : ∀ (a b : Nat) x y,a ≤ b → xs[a]? = some x → xs[b]? = some y → cf y < 0 → cf x < 0) :
  Calls Tryd.prog 81 #[.slice A xs.length c,.string key,.func (.func g) #[] cb] W fun e w' => e = .returned (.tuple #[.int .i64 (aheadN cf xs : Nat),.bool (stands cf xs)]) ∧ Below W.heap.size W w':=by
 have M:=A_ hmono;have HC:=A_ hcmp;have HF:=A_ hcf;have HR:=A_ h;have HB:=A_ (Below.refl W.heap.size W);clear hmono hcmp h hcf;have hu:=Tryd.underlying23;have huE:=Tryd.underlying62;go_enter Tryd.func81,Tryd.ntmps81;go_wp2
 go_loopg [9,10] xs.length (fun kx s9 s10 wr => ∃ lo hi : Nat,s9 = .int .i64 lo ∧ s10 = .int .i64 hi ∧ lo ≤ hi ∧ hi ≤ xs.length ∧ hi - lo ≤ kx ∧ Aside0 (Below W.heap.size W wr) ∧
  Aside0 ((∀ (t : Nat) x,t < lo → xs[t]? = some x → cf x < 0) ∧ (∀ (t : Nat) x,hi ≤ t → xs[t]? = some x → 0 ≤ cf x)))
 case atStart => exact ⟨0,xs.length,rfl,rfl,Nat.zero_le _,Nat.le_refl _,by omega,HB,⟨fun t x ht => absurd ht (Nat.not_lt_zero _),fun t x h1 h2 => by rw [List.getElem?_eq_none (by omega)] at h2;cases h2⟩⟩
 case round =>
  clear HB;obtain ⟨lo,hi,rfl,rfl,hlh,hin,hg,HB,I⟩:=hrel
  by_cases hlt : lo < hi
  ·have hR:=Kd.C_below HR.out HB.out;obtain ⟨m,hm⟩ : ∃ m : Nat,m = (lo + hi) / 2:=⟨_,rfl⟩;obtain ⟨ad,e,hx_0,hx_1⟩:=at_T62 hR (m : Int) (by omega) (by omega)
   cases e
   obtain ⟨y,hy⟩ : ∃ y,xs[m]? = some y:=⟨_,List.getElem?_eq_getElem (by omega)⟩
   have hyr : rd_T62 xs (m : Int) = y:=by unfold rd_T62;rw [List.getD_eq_getElem?_getD,Int.toNat_natCast,hy];rfl
   rw [hyr] at hx_0 hx_1;rw [Int.toNat_natCast] at hx_0 hx_1;have Y : Aside0 (xs[m]? = some y):=⟨hy⟩;have HM : Aside0 (m = (lo + hi) / 2):=⟨hm⟩
   have hml : m < xs.length:=by omega
   rw [hm] at hx_0 hx_1;have hcy:=HF.out y;clear hy hyr hR hm
   by_cases hyx : cf y < 0
   ·go_wp2_with (go_at_fn g;refine (HC.out _ y).mono ?_;rintro e w' ⟨rfl,hb⟩)
    go_roundg (hi - (m + 1))
    case measure => have:=HM.out;omega
    case rel =>
     have hm:=HM.out;refine ⟨m + 1,hi,by rw [show ((lo : Int) + (hi : Int)) / 2 + 1 = ((m + 1 : Nat) : Int) by omega],rfl,by omega,hin,Nat.le_refl _,⟨bs_ HB.out hb⟩,⟨fun t x ht hx => ?_,I.out.2⟩⟩;exact M.out t m x y (by omega) hx Y.out hyx
   ·go_wp2_with (go_at_fn g;refine (HC.out _ y).mono ?_;rintro e w' ⟨rfl,hb⟩)
    go_roundg (m - lo)
    case measure => have:=HM.out;omega
    case rel =>
     have hm:=HM.out;refine ⟨lo,m,rfl,by rw [show ((lo : Int) + (hi : Int)) / 2 = (m : Int) by omega],by omega,by omega,Nat.le_refl _,⟨bs_ HB.out hb⟩,⟨I.out.1,fun t x ht hx => ?_⟩⟩
     exact Int.not_lt.1 fun h => by have:=M.out m t y x ht Y.out hx h;omega
  ·obtain rfl : hi = lo:=by omega
   have ecnt : aheadN cf xs = hi:=aheadN_eq cf xs hi hin I.out.1 I.out.2
   by_cases hn : hi < xs.length
   ·have hR:=Kd.C_below HR.out HB.out;obtain ⟨ad,e,hx_0,hx_1⟩:=at_T62 hR (hi : Int) (by omega) (by omega)
    cases e
    obtain ⟨y,hy⟩ : ∃ y,xs[hi]? = some y:=⟨_,List.getElem?_eq_getElem hn⟩
    have hyr : rd_T62 xs (hi : Int) = y:=by unfold rd_T62;rw [List.getD_eq_getElem?_getD,Int.toNat_natCast,hy];rfl
    rw [hyr] at hx_0 hx_1;rw [Int.toNat_natCast] at hx_0 hx_1;have S : Aside0 (stands cf xs = decide (cf y = 0)):=⟨by unfold stands;rw [ecnt,hy]⟩;have EC:=A_ ecnt;have hcy:=HF.out y;clear hy hyr hR ecnt
    by_cases hyx : cf y = 0
    all_goals
     go_wp2_with (go_at_fn g;refine (HC.out _ y).mono ?_;rintro e w' ⟨rfl,hb⟩)
     go_ret2;exact ⟨by rw [EC.out,S.out];simp [hyx],bs_ HB.out hb⟩
   ·have S : Aside0 (stands cf xs = false):=⟨by unfold stands;rw [ecnt,List.getElem?_eq_none (by omega)]⟩;have EC:=A_ ecnt;clear ecnt;go_wp2;go_ret2;exact ⟨by rw [EC.out,S.out];rfl,HB.out⟩
def nameCmp (key : ByteArray) (x : S62) : Int := Lib.compareBytes x.f0.data.toList key.data.toList
theorem nameCmp_calls (key : ByteArray) (w : World) (x : S62) : Calls Tryd.prog 82 #[.agg #[.string x.f0, .string x.f1], .string key] w fun e w' => e = .returned (.int .i64 (nameCmp key x)) ∧ Below w.heap.size w w' := by
 have hu62:=Tryd.underlying62;obtain ⟨r,hr⟩ : ∃ r,r = nameCmp key x:=⟨_,rfl⟩;have HR:=A_ hr;rw [← hr];clear hr;go_enter Tryd.func82,Tryd.ntmps82
 go_wp2_with (go_at_call 83;refine (strcmp_calls _ _ _).mono ?_;rintro e w' ⟨rfl,rfl⟩)
 go_ret;exact ⟨by rw [HR.out];rfl,pa_ (Below.refl _ _) _⟩
def impl_fileNo.f (l0_0 : List S62) (a1 : ByteArray) : Option (Int × Bool) :=
 if (decide (l0_0.length < 4611686018427387904) && decide (l0_0.Pairwise fun x y => nameCmp a1 y < 0 → nameCmp a1 x < 0)) = true then some ((aheadN (nameCmp a1) l0_0 : Nat),stands (nameCmp a1) l0_0) else none
set_option maxHeartbeats 1000000 in
theorem impl_fileNo.calls (A0_0 : Option Addr) (c0_0 : Nat) (l0_0 : List (S62)) (a1 : ByteArray) (r1 : Int) (r2 : Bool) (w : World) (hr0_0 : Kd.C k62 w A0_0 l0_0.length l0_0) (hc0_0 : l0_0.length ≤ c0_0) (h : impl_fileNo.f l0_0 a1 = some (r1, r2)) :
  Calls Tryd.prog 69 #[.agg #[.slice A0_0 l0_0.length c0_0],.string a1] w fun e w' => e = .returned (.tuple #[.int .i64 r1,.bool r2]) ∧ Below w.heap.size w w':=by
 have hu:=Tryd.underlying25
 unfold impl_fileNo.f at h
 rcases bt_ (decide (l0_0.length < 4611686018427387904) && decide (l0_0.Pairwise fun x y => nameCmp a1 y < 0 → nameCmp a1 x < 0)) with hb|hb
 ·rw [if_pos hb] at h;obtain ⟨rfl,rfl⟩:=Prod.mk.inj (Option.some.inj h);rw [Bool.and_eq_true,decide_eq_true_iff,decide_eq_true_iff] at hb;have HR:=A_ hr0_0;have HP:=A_ hb;obtain ⟨n,hn⟩ : ∃ n,n = aheadN (nameCmp a1) l0_0:=⟨_,rfl⟩;obtain ⟨s,hs⟩ : ∃ s,s = stands (nameCmp a1) l0_0:=⟨_,rfl⟩;have HN:=A_ hn;have HS:=A_ hs;rw [← hn,← hs];clear hb h hr0_0 hc0_0 hn hs;go_enter Tryd.func69,Tryd.ntmps69
  go_wp2_with (go_at_call 81;refine (bsf_calls62 (nameCmp a1) 82 a1 #[] (fun W x => nameCmp_calls a1 W x) (fun x => strcmp_range _ _) (enters_of Tryd.func82 (by kernel_rfl) rfl) _ _ _ l0_0 (Kd.C_alloc HR.out _) HP.out.1 (fun a b x z hab hx hz => mono_of HP.out.2 hab hx hz)).mono ?_;rintro e w3 ⟨rfl,hb⟩;rw [← HN.out,← HS.out])
  go_ret2;exact ⟨rfl,bs_ (pa_ (Below.refl _ _) _) hb⟩
 ·rw [if_neg (by rw [hb];decide)] at h;cases h
def impl_FileAt.f (k : Nat) (l0_0 : List (S62)) (a1 : ByteArray) : Option (ByteArray × Bool) := (impl_DiskOk.f k l0_0).bind fun t255 => (if t255 = true then ((impl_fileNo.f l0_0 a1).bind fun bt256 => (if bt256.2 = true then (if 0 ≤ bt256.1 then (if bt256.1 < (l0_0.length : Int) then (some ((rd_T62 l0_0 bt256.1).f1, true)) else (none)) else (none)) else (some ((⟨#[]⟩ : ByteArray), false)))) else (some ((⟨#[]⟩ : ByteArray), false)))
theorem impl_FileAt.mono : ∀ a0 a1 k, LeO (impl_FileAt.f k a0 a1) (impl_FileAt.f (k + 1) a0 a1) := by
 intro a0 a1 k
 unfold impl_FileAt.f
 repeat' first
   | (with_reducible exact impl_DiskOk.mono _ _)
   | (with_reducible exact LeO.refl _)
   | (with_reducible exact LeO.none _)
   | (with_reducible refine LeO.ite ?_ ?_)
   | (with_reducible refine LeO.bind ?_ (fun _ => ?_))
set_option maxHeartbeats 8000000 in
set_option maxRecDepth 100000 in
theorem impl_FileAt.calls (k : Nat) (A0_0 : Option Addr) (c0_0 : Nat) (l0_0 : List (S62)) (a1 : ByteArray) (r1 : ByteArray) (r2 : Bool) (w : World) (hr0_0 : Kd.C k62 w A0_0 l0_0.length l0_0) (hc0_0 : l0_0.length ≤ c0_0) (h : impl_FileAt.f k l0_0 a1 = some (r1, r2)) :
  Calls Tryd.prog 42 #[.agg #[.slice A0_0 l0_0.length c0_0],.string a1] w fun e w' => e = .returned (.tuple #[.string r1,.bool r2]) ∧ Below w.heap.size w w':=by
 have hu25:=Tryd.underlying25;have HR0_0:=A_ hr0_0;have HC0_0:=A_ hc0_0;clear hr0_0 hc0_0;have HB:=A_ (Below.refl w.heap.size w);have H : ((impl_DiskOk.f k l0_0).bind fun t255 => (if t255 = true then ((impl_fileNo.f l0_0 a1).bind fun bt256 => (if bt256.2 = true then (if 0 ≤ bt256.1 then (if bt256.1 < (l0_0.length : Int) then (some ((rd_T62 l0_0 bt256.1).f1,true)) else (none)) else (none)) else (some ((⟨#[]⟩ : ByteArray),false)))) else (some ((⟨#[]⟩ : ByteArray),false)))) = some (r1,r2):=h;clear h;replace H:=ob_.mp H;obtain ⟨t255,A30,H⟩:=H;replace H : (if t255 = true then ((impl_fileNo.f l0_0 a1).bind fun bt256 => (if bt256.2 = true then (if 0 ≤ bt256.1 then (if bt256.1 < (l0_0.length : Int) then (some ((rd_T62 l0_0 bt256.1).f1,true)) else (none)) else (none)) else (some ((⟨#[]⟩ : ByteArray),false)))) else (some ((⟨#[]⟩ : ByteArray),false))) = some (r1,r2):=H;have A3:=A_ A30;clear A30;have HC4:=A_ H;clear H;go_enter Tryd.func42,Tryd.ntmps42
 go_upto_if 10 with (first|((with_reducible refine gate_dst (N:=2) rfl ?_);refine box_event ?hg (N:=2) ?hd (cs:=#[.slice A0_0 l0_0.length c0_0]) (t:=25) ?hr ?_;(case hd => rfl);(case hg => rfl);(case hr => first|(go_simp;done)|(go_simp;rfl));intro gb254 hg w5 hbox hb;have n0_:=A_ (bs_ (by repeat (first|(with_reducible first|exact HB.out|apply pa_|apply pn_|apply pd_)|exact HB.out)) hb);have n1_:=A_ (hbox);have n3_:=A_ ((by rw [hg];exact (bz_ (by repeat (first|(with_reducible first|exact HB.out|apply pa_|apply pn_|apply pd_)|exact HB.out))) : w.heap.size ≤ gb254));clear HB;have HB:=n0_;have BK254:=n1_;have GE254:=n3_;clear n0_ n1_ n3_;clear hb hbox hg;have hcz6_0 : w5.cell? ⟨gb254,0,none⟩ = some (.slice A0_0 l0_0.length c0_0):=(kc_ BK254.out 0).trans rfl;have hfz6_0:=kf_ BK254.out 0)|((with_reducible refine gate_callee (f:=40) rfl ?_);refine goesL_ (some 9) rfl rfl Tryd.func40 (by kernel_rfl) rfl #[.agg #[.slice A0_0 l0_0.length c0_0]] rfl (by (try simp only [s4_,s5_,s6_]);first|done|rfl|(simp only [List.length_drop,List.length_take];rfl)) ?_;(with_reducible refine (impl_DiskOk.calls k _ _ l0_0 t255 _ ?side1 ?side2 A3.out).mono ?_);(case side1 => repeat (first|exact (Kd.C_below HR0_0.out HB.out)|(with_reducible refine Kd.C_alloc ?_ _)|(with_reducible refine Kd.C_drewN ?_ _)|(with_reducible refine Kd.C_drew ?_)));(case side2 => exact HC0_0.out);rintro e w7 ⟨rfl,hb⟩;refine ⟨_,rfl,?_⟩;replace BK254:=A_ (kb_ (by (with_reducible repeat (first|refine kn_ ?_ _|refine kd_ ?_|refine ka_ ?_ _));exact BK254.out) hb);replace HB:=A_ (bs_ (by repeat (first|(with_reducible first|exact HB.out|apply pa_|apply pn_|apply pd_|refine ps_ ?_ GE254.out)|exact HB.out)) hb);(try clear hb);(try clear hb2);(try clear hk);(try clear hi)))
 have H:=HC4.out;clear HC4
 by_cases c8 : t255 = true
 ·subst c8
  have H1 : ((impl_fileNo.f l0_0 a1).bind fun bt256 => (if bt256.2 = true then (if 0 ≤ bt256.1 then (if bt256.1 < (l0_0.length : Int) then (some ((rd_T62 l0_0 bt256.1).f1,true)) else (none)) else (none)) else (some ((⟨#[]⟩ : ByteArray),false)))) = some (r1,r2):=by rw [if_pos rfl] at H;exact H
  clear H;have H:=H1;clear H1;replace H:=ob_.mp H;obtain ⟨⟨t256,t257⟩,A90,H⟩:=H;replace H : (if t257 = true then (if 0 ≤ t256 then (if t256 < (l0_0.length : Int) then (some ((rd_T62 l0_0 t256).f1,true)) else (none)) else (none)) else (some ((⟨#[]⟩ : ByteArray),false))) = some (r1,r2):=H;have A9:=A_ A90;clear A90;have HC10:=A_ H;clear H;have hcz11_0 : w7.cell? ⟨gb254,0,none⟩ = some (.slice A0_0 l0_0.length c0_0):=(kc_ BK254.out 0).trans rfl;have hfz11_0:=kf_ BK254.out 0
  go_upto_if 18 with (first|((with_reducible refine gate_callee (f:=69) rfl ?_);refine goesL_ (some 14) rfl rfl Tryd.func69 (by kernel_rfl) rfl #[.agg #[.slice A0_0 l0_0.length c0_0],.string a1] rfl (by (try simp only [s4_,s5_,s6_]);first|done|rfl|(simp only [List.length_drop,List.length_take];rfl)) ?_;(with_reducible refine (impl_fileNo.calls _ _ l0_0 a1 t256 t257 _ ?side1 ?side2 A9.out).mono ?_);(case side1 => repeat (first|exact (Kd.C_below HR0_0.out HB.out)|(with_reducible refine Kd.C_alloc ?_ _)|(with_reducible refine Kd.C_drewN ?_ _)|(with_reducible refine Kd.C_drew ?_)));(case side2 => exact HC0_0.out);rintro e w12 ⟨rfl,hb⟩;refine ⟨_,rfl,?_⟩;replace BK254:=A_ (kb_ (by (with_reducible repeat (first|refine kn_ ?_ _|refine kd_ ?_|refine ka_ ?_ _));exact BK254.out) hb);replace HB:=A_ (bs_ (by repeat (first|(with_reducible first|exact HB.out|apply pa_|apply pn_|apply pd_|refine ps_ ?_ GE254.out)|exact HB.out)) hb);(try clear hb);(try clear hb2);(try clear hk);(try clear hi)))
  have H:=HC10.out;clear HC10
  by_cases c13 : t257 = true
  ·subst c13
   have H1 : (if 0 ≤ t256 then (if t256 < (l0_0.length : Int) then (some ((rd_T62 l0_0 t256).f1,true)) else (none)) else (none)) = some (r1,r2):=by rw [if_pos rfl] at H;exact H
   clear H;have H:=H1;clear H1
   by_cases c14 : 0 ≤ t256
   ·rw [if_pos c14] at H;have c14b0 : decide (0 ≤ t256) = true:=de_ c14;clear c14
    (first|rw [c14b0]|(simp only [i64_w,i32_w];rw [c14b0])|skip)
    by_cases c15 : t256 < (l0_0.length : Int)
    ·rw [if_pos c15] at H;have c15b0 : decide (t256 < (l0_0.length : Int)) = true:=de_ c15;clear c15;simp only [Option.some.injEq,Prod.mk.injEq] at H;obtain ⟨rfl,rfl⟩:=H;have hcz16_0 : w12.cell? ⟨gb254,0,none⟩ = some (.slice A0_0 l0_0.length c0_0):=(kc_ BK254.out 0).trans rfl;have hfz16_0:=kf_ BK254.out 0;have p258 : 0 ≤ (t256 : Int):=oda_;have q258 : t256 < (l0_0.length : Int):=oda_;obtain ⟨ad258,e258,hx258_0,hx258_1⟩:=at_T62 HR0_0.out t256 p258 q258
     cases e258
     replace hx258_0:=(HB.out.cell (wb_ w _ hx258_0)).trans hx258_0;replace hx258_1:=(HB.out.cell (wb_ w _ hx258_1)).trans hx258_1;replace p258:=eq_true p258;replace q258:=eq_true q258;go_wp2;go_ret2;exact ⟨by first|rfl|(simp [*,errW_none,errW_some] <;> rfl),by repeat (first|(with_reducible first|exact HB.out|apply pa_|apply pn_|apply pd_|refine ps_ ?_ GE254.out)|exact HB.out)⟩
    ·rw [if_neg c15] at H;exact absurd H (by simp)
   ·rw [if_neg c14] at H;exact absurd H (by simp)
  ·replace c13:=Bool.eq_false_iff.mpr c13;subst c13
   have H1 : (some ((⟨#[]⟩ : ByteArray),false)) = some (r1,r2):=by rw [if_neg (show ¬ (false = true) by decide)] at H;exact H
   clear H;have H:=H1;clear H1;simp only [Option.some.injEq,Prod.mk.injEq] at H;obtain ⟨rfl,rfl⟩:=H;go_wp2;go_ret2;exact ⟨by first|rfl|(simp [*,errW_none,errW_some] <;> rfl),by repeat (first|(with_reducible first|exact HB.out|apply pa_|apply pn_|apply pd_|refine ps_ ?_ GE254.out)|exact HB.out)⟩
 ·replace c8:=Bool.eq_false_iff.mpr c8;subst c8
  have H1 : (some ((⟨#[]⟩ : ByteArray),false)) = some (r1,r2):=by rw [if_neg (show ¬ (false = true) by decide)] at H;exact H
  clear H;have H:=H1;clear H1;simp only [Option.some.injEq,Prod.mk.injEq] at H;obtain ⟨rfl,rfl⟩:=H;go_wp2;go_ret2;exact ⟨by first|rfl|(simp [*,errW_none,errW_some] <;> rfl),by repeat (first|(with_reducible first|exact HB.out|apply pa_|apply pn_|apply pd_|refine ps_ ?_ GE254.out)|exact HB.out)⟩
end Go.Proofs.YtbcgnncbiblibaaDoor.PFnExactShelfMap
