/- The pure statement of the law: its plain function answers true. No conditions but those that each statement names. By this repo's programs; comments are taken out. -/
import Derived.Lib.AtoiBound
import Derived.Test.YtlmicldpfnmeaaaGreatDoorVFnExactMergeShelfD
import Derived.Test.YtlmicldpfnmeaaaGreatDoorVFnExactMergeShelfA
set_option linter.all false
namespace Go.Ep
open Go.RowKit Go.Proofs.YtlmicldpfnmeaaaGreatDoorW.PrintWords Go.Proofs.YtlmicldpfnmeaaaGreatDoorW.PrintLast Go.Proofs.YtlmicldpfnmeaaaGreatDoorW.PrintMore Go.Ev
def aheadN {α:Type} (cf:α→Int) (xs:List α):Nat:=xs.countP (fun x => decide (cf x < 0))
theorem aheadN_le {α:Type} (cf:α→Int) (xs:List α):aheadN cf xs≤xs.length:=List.countP_le_length
theorem aheadN_eq {α:Type} (cf:α→Int):∀ (l:List α) (i:Nat),i≤l.length→(∀ t x,t < i→l[t]? = some x→cf x < 0)→(∀ t x,i≤t→l[t]? = some x→0≤cf x)→aheadN cf l = i
 | [],i,hi,_,_ => by simp at hi;simp [hi,aheadN]
 | a::r,0,_,_,h2 => by
  unfold aheadN
  rw [List.countP_eq_zero]
  intro x hx
  obtain ⟨t,ht,rfl⟩:=List.getElem_of_mem hx
  have:=h2 t _ (Nat.zero_le _) (List.getElem?_eq_getElem ht)
  simp;omega
 | a::r,i + 1,hi,h1,h2 => by
  have ha:=h1 0 a (Nat.succ_pos _) rfl
  have ih:=aheadN_eq cf r i (by simpa using hi) (fun t x ht hx => h1 (t + 1) x (by omega) (by simpa using hx)) (fun t x h3 hx => h2 (t + 1) x (by omega) (by simpa using hx))
  unfold aheadN at ih ⊢
  rw [List.countP_cons_of_pos (by simpa using ha),ih]
def stands {α:Type} (cf:α→Int) (xs:List α):Bool:=match xs[aheadN cf xs]? with | some x => decide (cf x = 0) | none => false
theorem less_irr:∀ (a:List UInt8),Op.bytesLess a a = false
 | [] => rfl
 | a::x => by
  have h1:¬ a < a:=fun e => by have:=UInt8.lt_iff_toNat_lt.mp e;omega
  simp [Op.bytesLess,h1,less_irr x]
theorem less_trans:∀ {a b c:List UInt8},Op.bytesLess a b = true→Op.bytesLess b c = true→Op.bytesLess a c = true
 | _,[],_,h,_ => by simp [Op.bytesLess] at h
 | _,_::_,[],_,h => by simp [Op.bytesLess] at h
 | [],_::_,_::_,_,_ => rfl
 | a::x,b::y,c::z,h,k => by
  simp only [Op.bytesLess,Bool.or_eq_true,Bool.and_eq_true,decide_eq_true_iff,beq_iff_eq] at h k ⊢
  rcases h with h | ⟨rfl,h⟩
  ·rcases k with k | ⟨rfl,k⟩
   ·exact .inl (UInt8.lt_trans h k)
   ·exact .inl h
  ·rcases k with k | ⟨rfl,k⟩
   ·exact .inl k
   ·exact .inr ⟨rfl,less_trans h k⟩
theorem less_tri:∀ {a b:List UInt8},Op.bytesLess a b = false→Op.bytesLess b a = false→a = b
 | [],[],_,_ => rfl
 | [],_::_,h,_ => by simp [Op.bytesLess] at h
 | _::_,[],_,k => by simp [Op.bytesLess] at k
 | a::x,b::y,h,k => by
  simp only [Op.bytesLess,Bool.or_eq_false_iff,Bool.and_eq_false_iff,decide_eq_false_iff_not,beq_eq_false_iff_ne] at h k
  obtain ⟨h1,h2⟩:=h
  obtain ⟨k1,k2⟩:=k
  have e:a = b:=by
   rw [UInt8.lt_iff_toNat_lt] at h1 k1
   exact UInt8.toNat_inj.mp (by omega)
  subst e
  rw [less_tri (a:=x) (b:=y) (by simpa using h2) (by simpa using k2)]
def lessK (a b:ByteArray):Bool:=Op.bytesLess a.toList b.toList
theorem cmp_less:∀ (a b:List UInt8),(Lib.compareBytes a b < 0↔Op.bytesLess a b = true)∧(Lib.compareBytes a b = 0↔a = b)
 | [],[] => by simp [Lib.compareBytes,Op.bytesLess]
 | [],_::_ => by simp [Lib.compareBytes,Op.bytesLess]
 | _::_,[] => by simp [Lib.compareBytes,Op.bytesLess]
 | a::x,b::y => by
  obtain ⟨ih1,ih2⟩:=cmp_less x y
  unfold Lib.compareBytes
  simp only [Op.bytesLess,Bool.or_eq_true,Bool.and_eq_true,decide_eq_true_iff,beq_iff_eq,List.cons.injEq]
  by_cases h1:a < b
  ·have h3:¬ a = b:=fun e => by subst e;exact absurd h1 (by rw [UInt8.lt_iff_toNat_lt];omega)
   rw [if_pos h1]
   exact ⟨by simp [h1],by simp [h3]⟩
  ·rw [if_neg h1]
   by_cases h2:b < a
   ·have h3:¬ a = b:=fun e => by subst e;exact absurd h2 (by rw [UInt8.lt_iff_toNat_lt];omega)
    rw [if_pos h2]
    exact ⟨by simp [h1,h3],by simp [h3]⟩
   ·rw [if_neg h2]
    have e:a = b:=by
     rw [UInt8.lt_iff_toNat_lt] at h1 h2
     exact UInt8.toNat_inj.mp (by omega)
    subst e
    exact ⟨by rw [ih1];simp [h1],by rw [ih2];simp⟩
theorem lt_tri (a b:ByteArray):lessK a b = true∨a = b∨lessK b a = true:=by
 cases h:lessK a b
 ·cases h':lessK b a
  ·exact .inr (.inl (toList_inj.1 (less_tri h h')))
  ·exact .inr (.inr rfl)
 ·exact .inl rfl
theorem lessK_irr (a:ByteArray):lessK a a = false:=less_irr _
theorem lessK_trans {a b c:ByteArray} (h:lessK a b = true) (k:lessK b c = true):lessK a c = true:=less_trans h k
theorem laws_markText_loop:∀ (n:Nat) (acc:ByteArray),acc.size + n≤4611686018427387904→Ev (fun k => laws_markText.l0 k (n:Int) acc) (markTextL n acc):=by
 intro n
 induction n using Nat.strongRecOn with
 | ind n ih =>
  intro acc h
  refine Ev.step (fun _ => rfl) ?_
  simp only [laws_markText.l0,tdiv10 n (by omega),tmod10 n,Option.bind_some,strOfNums_size,List.length_singleton]
  rw [markTextL]
  refine Ev.ite (fun hc => ?_) (fun hc => ?_)
  ·rw [if_pos (show n > 0 by omega)]
   exact Ev.pos (by omega) (ih (n / 10) (by omega) _ (by rw [size_append,strOfNums_size,List.length_singleton];omega))
  ·rw [if_neg (show ¬ n > 0 by omega)]
   have h1:(⟨#[109]⟩:ByteArray).size = 1:=rfl
   exact Ev.pos (by omega) (Ev.now _)
theorem laws_markText_ev (m:Int) (hm:m≤4611686018427387904):Ev (fun k => laws_markText.f k m) (markTextOf m):=by
 unfold laws_markText.f markTextOf
 by_cases hc:m≤0
 ·rw [if_pos hc];exact Ev.pos hc (Ev.now _)
 ·rw [if_neg hc]
  obtain ⟨n,rfl⟩:=Int.eq_ofNat_of_zero_le (show 0≤m by omega)
  exact Ev.neg hc (laws_markText_loop n _ (by show 0 + n≤_;omega))
theorem rdT171_drop {xs:List S171} {n:Nat} {x:S171} {t:List S171} (h:xs.drop n = x::t):rd_T171 xs (n:Int) = x:=by
 unfold rd_T171
 rw [Int.toNat_natCast]
 exact (drop_cons h).2.1 _
theorem rdT171_get {xs:List S171} {n:Nat} (h:n < xs.length):xs[n]? = some (rd_T171 xs (n:Int)):=by
 unfold rd_T171
 rw [Int.toNat_natCast]
 exact getD_get h
theorem rdT122_drop {xs:List S122} {n:Nat} {x:S122} {t:List S122} (h:xs.drop n = x::t):rd_T122 xs (n:Int) = x:=by
 unfold rd_T122
 rw [Int.toNat_natCast]
 exact (drop_cons h).2.1 _
theorem rdT122_at {a:List S122} {n:Nat} (h:a.length = n) (v:S122) (t:List S122):rd_T122 (a++v::t) (n:Int) = v:=by
 unfold rd_T122
 rw [Int.toNat_natCast]
 exact getD_at h v t _
theorem rdT122_get {xs:List S122} {n:Nat} (h:n < xs.length):xs[n]? = some (rd_T122 xs (n:Int)):=by
 unfold rd_T122
 rw [Int.toNat_natCast]
 exact getD_get h
theorem laws_szFile_some (x0:ByteArray) (x1:ByteArray) (c:Int) (hc0:0≤c) (hc:c≤1048576) (h0:x0.size≤140737488351232) (h1:x1.size≤140737488351232) :
  ∃ r,laws_szFile.f x0 x1 c = some r∧(¬ r < 0→r = c - ((x0.size + x1.size:Nat):Int)):=by
 unfold laws_szFile.f wrap64
 by_cases c0:(c - (x0.size:Int) + 9223372036854775808) % 18446744073709551616 - 9223372036854775808 < 0
 ·exact ⟨-1,by rw [if_pos c0],by omega⟩
 rw [if_neg c0]
 by_cases c1:(((c - (x0.size:Int) + 9223372036854775808) % 18446744073709551616 - 9223372036854775808) - (x1.size:Int) + 9223372036854775808) % 18446744073709551616 - 9223372036854775808 < 0
 ·exact ⟨-1,by rw [if_pos c1],by omega⟩
 rw [if_neg c1]
 exact ⟨_,rfl,by omega⟩
def wtFile (x:S171):Nat:=x.f0.size + x.f1.size
theorem laws_szFileS_loop (xs:List S171) (hx:xs.length≤1048576):∀ (rest:List S171) (n:Nat) (c:Int),xs.drop n = rest→(∀ x∈rest,x.f0.size≤140737488351232∧x.f1.size≤140737488351232)→0≤c→c≤1048576 →
  ∃ r,Ev (fun k => laws_szFileS.l0 k xs c (n:Int)) r∧(¬ r < 0→r = c - (((rest.map wtFile).sum:Nat):Int)):=by
 intro rest
 induction rest with
 | nil =>
  intro n c h _ h0 h1
  have:=drop_nil h
  refine ⟨c,Ev.step (fun _ => rfl) ?_,by simp⟩
  simp only [laws_szFileS.l0]
  exact Ev.neg (by omega) (Ev.now _)
 | cons x t ih =>
  intro n c h hq0 h0 h1
  obtain ⟨hn,-,h3⟩:=drop_cons h
  have hq:=hq0 x List.mem_cons_self
  obtain ⟨r,hr,hb⟩:=laws_szFile_some x.f0 x.f1 c h0 h1 hq.1 hq.2
  by_cases hc:r < 0
  ·refine ⟨-1,Ev.step (fun _ => rfl) ?_,by omega⟩
   simp only [laws_szFileS.l0,rdT171_drop h]
   exact Ev.pos (by omega) (Ev.pos (by omega) (Ev.call hr (Ev.pos hc (Ev.now _))))
  ·have hb:=hb hc
   obtain ⟨r',hr',hb'⟩:=ih (n + 1) r h3 (fun y hy => hq0 y (List.mem_cons_of_mem _ hy)) (by omega) (by omega)
   refine ⟨r',Ev.step (fun _ => rfl) ?_,fun hn => ?_⟩
   ·simp only [laws_szFileS.l0,rdT171_drop h,wrap64_succ (show n≤9223372036854775806 by omega)]
    exact Ev.pos (by omega) (Ev.pos (by omega) (Ev.call hr (Ev.neg hc hr')))
   ·have:=hb' hn
    rw [List.map_cons,List.sum_cons,wtFile]
    omega
theorem laws_szFileS_ev (xs:List S171) (hx:xs.length≤17592186044416) (hq:∀ x∈xs,x.f0.size≤140737488351232∧x.f1.size≤140737488351232) (c:Int) (h0:0≤c) (h1:c≤1048576) :
  ∃ r,Ev (fun k => laws_szFileS.f k xs c) r∧(¬ r < 0→r = c - ((xs.length + (xs.map wtFile).sum:Nat):Int)):=by
 unfold laws_szFileS.f
 rw [wrap64_id (by omega) (by omega)]
 by_cases hc:c - (xs.length:Int) < 0
 ·exact ⟨-1,Ev.pos hc (Ev.now _),by omega⟩
 ·obtain ⟨r,hr,hb⟩:=laws_szFileS_loop xs (by omega) xs 0 (c - (xs.length:Int)) rfl hq (by omega) (by omega)
  exact ⟨r,Ev.neg hc hr,fun hn => by have:=hb hn;omega⟩
def toFile (x:S171):S122:=⟨x.f0,x.f1⟩
theorem laws_toFileS_loop (xs:List S171) (hx:xs.length≤1048576):∀ (d n:Nat),n + d = xs.length →
  Ev (fun k => laws_toFileS.l0 k xs ((xs.map toFile).take n++List.replicate d z122) (n:Int)) (xs.map toFile):=by
 intro d
 induction d with
 | zero =>
  intro n h
  refine Ev.step (fun _ => rfl) ?_
  simp only [laws_toFileS.l0]
  exact Ev.neg (by omega) (Ev.done (by rw [List.take_of_length_le (by simp;omega)];simp))
 | succ d ih =>
  intro n h
  refine Ev.step (fun _ => rfl) ?_
  simp only [laws_toFileS.l0,wrap64_succ (show n≤9223372036854775806 by omega)]
  refine Ev.pos (by omega) (Ev.pos (by omega) (Ev.call rfl (Ev.pos (by simp;omega) (Ev.congr (fun k => ?_) (ih (n + 1) (by omega))))))
  rw [Int.toNat_natCast,set_fill (xs.map toFile) n d z122 _ (by simpa using h) (by rw [List.getElem?_map,rdT171_get (show n < xs.length by omega)];rfl)]
theorem laws_toFileS_ev (xs:List S171) (hx:xs.length≤1048576):Ev (fun k => laws_toFileS.f k xs) (xs.map toFile):=by
 unfold laws_toFileS.f
 refine Ev.pos (by omega) (Ev.pos (by omega) ?_)
 exact Ev.congr (fun k => by simp) (laws_toFileS_loop xs hx xs.length 0 (by omega))
theorem laws_eqFile_refl (x0:ByteArray) (x1:ByteArray):laws_eqFile.f x0 x1 x0 x1 = some true:=by simp [laws_eqFile.f]
theorem laws_eqFileS_loop (xs:List S122) (hx:xs.length≤9223372036854775806):∀ (rest:List S122) (n:Nat),xs.drop n = rest→Ev (fun k => laws_eqFileS.l0 k xs xs (n:Int)) true:=by
 intro rest
 induction rest with
 | nil =>
  intro n h
  have:=drop_nil h
  refine Ev.step (fun _ => rfl) ?_
  simp only [laws_eqFileS.l0]
  exact Ev.neg (by omega) (Ev.now _)
 | cons x t ih =>
  intro n h
  obtain ⟨h1,-,h3⟩:=drop_cons h
  refine Ev.step (fun _ => rfl) ?_
  simp only [laws_eqFileS.l0,wrap64_succ (show n≤9223372036854775806 by omega)]
  exact Ev.pos (by omega) (Ev.pos (by omega) (Ev.pos (by omega) (Ev.call (laws_eqFile_refl _ _) (Ev.pos rfl (ih (n + 1) h3)))))
theorem laws_eqFileS_refl (xs:List S122) (hx:xs.length≤9223372036854775806):Ev (fun k => laws_eqFileS.f k xs xs) true :=
 Ev.pos rfl (laws_eqFileS_loop xs hx xs 0 rfl)
def mkFile (m:Int):S122:=⟨markTextOf (m),markTextOf (m + 1)⟩
def markedFile:List S122→Int→List S122
 | [],_ => []
 | _::t,m => mkFile m::markedFile t (m + 1 + 1)
theorem laws_markFileS_loop:∀ (rest done:List S122) (n:Nat) (m:Int),done.length = n→0≤m→m + 2 * (rest.length:Int)≤4611686018427387904→n + rest.length≤1152921504606846976 →
  Ev (fun k => laws_markFileS.l0 k (done++rest) m (n:Int)) (m + 2 * (rest.length:Int),done++markedFile rest m):=by
 intro rest
 induction rest with
 | nil =>
  intro done n m hd h0 hm hb
  refine Ev.step (fun _ => rfl) ?_
  simp only [laws_markFileS.l0]
  exact Ev.neg (by rw [List.append_nil];omega) (Ev.done (by simp [markedFile]))
 | cons x t ih =>
  intro done n m hd h0 hm hb
  have hn:n≤9223372036854775806:=by rw [List.length_cons] at hb;omega
  have hm':m + 2≤4611686018427387904:=by rw [List.length_cons] at hm;omega
  have w1:wrap64 (m + 1) = m + 1:=wrap64_id (by omega) (by omega)
  have w2:wrap64 (m + 1 + 1) = m + 1 + 1:=wrap64_id (by omega) (by omega)
  have ih:=ih (done++[mkFile m]) (n + 1) (m + 1 + 1) (by simp [hd]) (by omega) (by rw [List.length_cons] at hm;omega) (by rw [List.length_cons] at hb;omega)
  refine Ev.step (fun _ => rfl) ?_
  simp only [laws_markFileS.l0,wrap64_succ hn,Int.toNat_natCast,set_at hd,rdT122_at hd,Option.bind_some,w1,w2]
  repeat' first
   | refine Ev.pos (by first | omega | (simp only [List.length_append,List.length_cons];omega)) ?_
   | refine Ev.bind (laws_markText_ev _ (by omega)) ?_
  try simp only [Option.bind_some,set_at hd,rdT122_at hd]
  refine Ev.eq (Ev.congr (fun k => ?_) ih) ?_
  ·simp only [List.append_assoc,List.cons_append,List.nil_append];rfl
  ·rw [markedFile,List.append_assoc,List.length_cons]
   refine Prod.ext ?_ rfl
   show (m + 1 + 1) + 2 * (t.length:Int) = m + 2 * ((t.length + 1:Nat):Int)
   omega
theorem laws_markFileS_ev (l:List S122) (m:Int) (h0:0≤m) (hm:m + 2 * (l.length:Int)≤4611686018427387904) (hl:l.length≤1152921504606846976):Ev (fun k => laws_markFileS.f k l m) (m + 2 * (l.length:Int),markedFile l m) :=
 laws_markFileS_loop l [] 0 m rfl h0 hm (by omega)
theorem rdT119_drop {xs:List S119} {n:Nat} {x:S119} {t:List S119} (h:xs.drop n = x::t):rd_T119 xs (n:Int) = x:=by
 unfold rd_T119
 rw [Int.toNat_natCast]
 exact (drop_cons h).2.1 _
theorem rdT119_at {a:List S119} {n:Nat} (h:a.length = n) (v:S119) (t:List S119):rd_T119 (a++v::t) (n:Int) = v:=by
 unfold rd_T119
 rw [Int.toNat_natCast]
 exact getD_at h v t _
theorem laws_eqRaw_refl (x0:Int) (x1:ByteArray) (x2:ByteArray) (x3:ByteArray):laws_eqRaw.f x0 x1 x2 x3 x0 x1 x2 x3 = some true:=by simp [laws_eqRaw.f]
theorem laws_eqRawS_loop (xs:List S119) (hx:xs.length≤9223372036854775806):∀ (rest:List S119) (n:Nat),xs.drop n = rest→Ev (fun k => laws_eqRawS.l0 k xs xs (n:Int)) true:=by
 intro rest
 induction rest with
 | nil =>
  intro n h
  have:=drop_nil h
  refine Ev.step (fun _ => rfl) ?_
  simp only [laws_eqRawS.l0]
  exact Ev.neg (by omega) (Ev.now _)
 | cons x t ih =>
  intro n h
  obtain ⟨h1,-,h3⟩:=drop_cons h
  refine Ev.step (fun _ => rfl) ?_
  simp only [laws_eqRawS.l0,wrap64_succ (show n≤9223372036854775806 by omega)]
  exact Ev.pos (by omega) (Ev.pos (by omega) (Ev.pos (by omega) (Ev.call (laws_eqRaw_refl _ _ _ _) (Ev.pos rfl (ih (n + 1) h3)))))
theorem laws_eqRawS_refl (xs:List S119) (hx:xs.length≤9223372036854775806):Ev (fun k => laws_eqRawS.f k xs xs) true :=
 Ev.pos rfl (laws_eqRawS_loop xs hx xs 0 rfl)
def mkRaw (m:Int):S119:=⟨m,markTextOf (m + 1),markTextOf (m + 1 + 1),markTextOf (m + 1 + 1 + 1)⟩
def markedRaw:List S119→Int→List S119
 | [],_ => []
 | _::t,m => mkRaw m::markedRaw t (m + 1 + 1 + 1 + 1)
theorem markedRaw_length:∀ (l:List S119) (m:Int),(markedRaw l m).length = l.length
 | [],_ => rfl
 | x::t,m => by rw [markedRaw,List.length_cons,List.length_cons,markedRaw_length t]
theorem laws_markRawS_loop:∀ (rest done:List S119) (n:Nat) (m:Int),done.length = n→0≤m→m + 4 * (rest.length:Int)≤4611686018427387904→n + rest.length≤1152921504606846976 →
  Ev (fun k => laws_markRawS.l0 k (done++rest) m (n:Int)) (m + 4 * (rest.length:Int),done++markedRaw rest m):=by
 intro rest
 induction rest with
 | nil =>
  intro done n m hd h0 hm hb
  refine Ev.step (fun _ => rfl) ?_
  simp only [laws_markRawS.l0]
  exact Ev.neg (by rw [List.append_nil];omega) (Ev.done (by simp [markedRaw]))
 | cons x t ih =>
  intro done n m hd h0 hm hb
  have hn:n≤9223372036854775806:=by rw [List.length_cons] at hb;omega
  have hm':m + 4≤4611686018427387904:=by rw [List.length_cons] at hm;omega
  have w1:wrap64 (m + 1) = m + 1:=wrap64_id (by omega) (by omega)
  have w2:wrap64 (m + 1 + 1) = m + 1 + 1:=wrap64_id (by omega) (by omega)
  have w3:wrap64 (m + 1 + 1 + 1) = m + 1 + 1 + 1:=wrap64_id (by omega) (by omega)
  have w4:wrap64 (m + 1 + 1 + 1 + 1) = m + 1 + 1 + 1 + 1:=wrap64_id (by omega) (by omega)
  have ih:=ih (done++[mkRaw m]) (n + 1) (m + 1 + 1 + 1 + 1) (by simp [hd]) (by omega) (by rw [List.length_cons] at hm;omega) (by rw [List.length_cons] at hb;omega)
  refine Ev.step (fun _ => rfl) ?_
  simp only [laws_markRawS.l0,wrap64_succ hn,Int.toNat_natCast,set_at hd,rdT119_at hd,Option.bind_some,w1,w2,w3,w4]
  repeat' first
   | refine Ev.pos (by first | omega | (simp only [List.length_append,List.length_cons];omega)) ?_
   | refine Ev.bind (laws_markText_ev _ (by omega)) ?_
  try simp only [Option.bind_some,set_at hd,rdT119_at hd]
  refine Ev.eq (Ev.congr (fun k => ?_) ih) ?_
  ·simp only [List.append_assoc,List.cons_append,List.nil_append];rfl
  ·rw [markedRaw,List.append_assoc,List.length_cons]
   refine Prod.ext ?_ rfl
   show (m + 1 + 1 + 1 + 1) + 4 * (t.length:Int) = m + 4 * ((t.length + 1:Nat):Int)
   omega
theorem laws_markRawS_ev (l:List S119) (m:Int) (h0:0≤m) (hm:m + 4 * (l.length:Int)≤4611686018427387904) (hl:l.length≤1152921504606846976):Ev (fun k => laws_markRawS.f k l m) (m + 4 * (l.length:Int),markedRaw l m) :=
 laws_markRawS_loop l [] 0 m rfl h0 hm (by omega)
theorem laws_heldRawS_loop (xs:List S119) (hx:xs.length≤1152921504606846976):∀ (rest:List S119) (n:Nat) (m:Int),xs.drop n = markedRaw rest m→0≤m→m + 4 * (rest.length:Int)≤4611686018427387904 →
  Ev (fun k => laws_heldRawS.l0 k xs m (n:Int)) (m + 4 * (rest.length:Int)):=by
 intro rest
 induction rest with
 | nil =>
  intro n m h h0 hm
  have:=drop_nil h
  refine Ev.step (fun _ => rfl) ?_
  simp only [laws_heldRawS.l0]
  exact Ev.neg (by omega) (Ev.done (by simp))
 | cons x t ih =>
  intro n m h h0 hm
  rw [markedRaw] at h
  obtain ⟨h1,-,h3⟩:=drop_cons h
  have hm':m + 4≤4611686018427387904:=by rw [List.length_cons] at hm;omega
  have w1:wrap64 (m + 1) = m + 1:=wrap64_id (by omega) (by omega)
  have w2:wrap64 (m + 1 + 1) = m + 1 + 1:=wrap64_id (by omega) (by omega)
  have w3:wrap64 (m + 1 + 1 + 1) = m + 1 + 1 + 1:=wrap64_id (by omega) (by omega)
  have w4:wrap64 (m + 1 + 1 + 1 + 1) = m + 1 + 1 + 1 + 1:=wrap64_id (by omega) (by omega)
  have ih:=ih (n + 1) (m + 1 + 1 + 1 + 1) h3 (by omega) (by rw [List.length_cons] at hm;omega)
  refine Ev.step (fun _ => rfl) ?_
  simp only [laws_heldRawS.l0,wrap64_succ (show n≤9223372036854775806 by omega),rdT119_drop h,w1,w2,w3,w4]
  refine Ev.pos (by omega) (Ev.pos (by omega) (Ev.pos rfl (Ev.bind (laws_markText_ev (m + 1) (by omega)) (Ev.pos rfl (Ev.bind (laws_markText_ev (m + 1 + 1) (by omega)) (Ev.pos rfl (Ev.bind (laws_markText_ev (m + 1 + 1 + 1) (by omega)) (Ev.pos rfl (?_)))))))))
  refine Ev.eq ih ?_
  rw [List.length_cons]
  show (m + 1 + 1 + 1 + 1) + 4 * (t.length:Int) = m + 4 * ((t.length + 1:Nat):Int)
  omega
theorem laws_heldRawS_ev (l:List S119) (m:Int) (h0:0≤m) (hm:m + 4 * (l.length:Int)≤4611686018427387904) (hl:l.length≤1152921504606846976):Ev (fun k => laws_heldRawS.f k (markedRaw l m) m) (m + 4 * (l.length:Int)) :=
 laws_heldRawS_loop _ (by rw [markedRaw_length];omega) l 0 m rfl h0 hm
theorem rdT162_drop {xs:List S162} {n:Nat} {x:S162} {t:List S162} (h:xs.drop n = x::t):rd_T162 xs (n:Int) = x:=by
 unfold rd_T162
 rw [Int.toNat_natCast]
 exact (drop_cons h).2.1 _
theorem rdT147_drop {xs:List S147} {n:Nat} {x:S147} {t:List S147} (h:xs.drop n = x::t):rd_T147 xs (n:Int) = x:=by
 unfold rd_T147
 rw [Int.toNat_natCast]
 exact (drop_cons h).2.1 _
theorem rdT173_drop {xs:List S173} {n:Nat} {x:S173} {t:List S173} (h:xs.drop n = x::t):rd_T173 xs (n:Int) = x:=by
 unfold rd_T173
 rw [Int.toNat_natCast]
 exact (drop_cons h).2.1 _
theorem rdT173_get {xs:List S173} {n:Nat} (h:n < xs.length):xs[n]? = some (rd_T173 xs (n:Int)):=by
 unfold rd_T173
 rw [Int.toNat_natCast]
 exact getD_get h
theorem rdT145_drop {xs:List S145} {n:Nat} {x:S145} {t:List S145} (h:xs.drop n = x::t):rd_T145 xs (n:Int) = x:=by
 unfold rd_T145
 rw [Int.toNat_natCast]
 exact (drop_cons h).2.1 _
theorem rdT145_at {a:List S145} {n:Nat} (h:a.length = n) (v:S145) (t:List S145):rd_T145 (a++v::t) (n:Int) = v:=by
 unfold rd_T145
 rw [Int.toNat_natCast]
 exact getD_at h v t _
theorem laws_szSpot_some (x0:ByteArray) (x1:Int) (x2:Int) (x3:Int) (c:Int) (hc0:0≤c) (hc:c≤1048576) (h0:x0.size≤140737488351232) :
  ∃ r,laws_szSpot.f x0 x1 x2 x3 c = some r∧(¬ r < 0→r = c - ((x0.size:Nat):Int)):=by
 unfold laws_szSpot.f wrap64
 by_cases c0:(c - (x0.size:Int) + 9223372036854775808) % 18446744073709551616 - 9223372036854775808 < 0
 ·exact ⟨-1,by rw [if_pos c0],by omega⟩
 rw [if_neg c0]
 exact ⟨_,rfl,by omega⟩
def wtSpot (x:S173):Nat:=x.f0.size
theorem laws_szSpotS_loop (xs:List S173) (hx:xs.length≤1048576):∀ (rest:List S173) (n:Nat) (c:Int),xs.drop n = rest→(∀ x∈rest,x.f0.size≤140737488351232)→0≤c→c≤1048576 →
  ∃ r,Ev (fun k => laws_szSpotS.l0 k xs c (n:Int)) r∧(¬ r < 0→r = c - (((rest.map wtSpot).sum:Nat):Int)):=by
 intro rest
 induction rest with
 | nil =>
  intro n c h _ h0 h1
  have:=drop_nil h
  refine ⟨c,Ev.step (fun _ => rfl) ?_,by simp⟩
  simp only [laws_szSpotS.l0]
  exact Ev.neg (by omega) (Ev.now _)
 | cons x t ih =>
  intro n c h hq0 h0 h1
  obtain ⟨hn,-,h3⟩:=drop_cons h
  have hq:=hq0 x List.mem_cons_self
  obtain ⟨r,hr,hb⟩:=laws_szSpot_some x.f0 x.f1 x.f2 x.f3 c h0 h1 hq
  by_cases hc:r < 0
  ·refine ⟨-1,Ev.step (fun _ => rfl) ?_,by omega⟩
   simp only [laws_szSpotS.l0,rdT173_drop h]
   exact Ev.pos (by omega) (Ev.pos (by omega) (Ev.call hr (Ev.pos hc (Ev.now _))))
  ·have hb:=hb hc
   obtain ⟨r',hr',hb'⟩:=ih (n + 1) r h3 (fun y hy => hq0 y (List.mem_cons_of_mem _ hy)) (by omega) (by omega)
   refine ⟨r',Ev.step (fun _ => rfl) ?_,fun hn => ?_⟩
   ·simp only [laws_szSpotS.l0,rdT173_drop h,wrap64_succ (show n≤9223372036854775806 by omega)]
    exact Ev.pos (by omega) (Ev.pos (by omega) (Ev.call hr (Ev.neg hc hr')))
   ·have:=hb' hn
    rw [List.map_cons,List.sum_cons,wtSpot]
    omega
theorem laws_szSpotS_ev (xs:List S173) (hx:xs.length≤17592186044416) (hq:∀ x∈xs,x.f0.size≤140737488351232) (c:Int) (h0:0≤c) (h1:c≤1048576) :
  ∃ r,Ev (fun k => laws_szSpotS.f k xs c) r∧(¬ r < 0→r = c - ((xs.length + (xs.map wtSpot).sum:Nat):Int)):=by
 unfold laws_szSpotS.f
 rw [wrap64_id (by omega) (by omega)]
 by_cases hc:c - (xs.length:Int) < 0
 ·exact ⟨-1,Ev.pos hc (Ev.now _),by omega⟩
 ·obtain ⟨r,hr,hb⟩:=laws_szSpotS_loop xs (by omega) xs 0 (c - (xs.length:Int)) rfl hq (by omega) (by omega)
  exact ⟨r,Ev.neg hc hr,fun hn => by have:=hb hn;omega⟩
def toSpot (x:S173):S145:=⟨x.f0,x.f1,x.f2,x.f3⟩
theorem laws_toSpotS_loop (xs:List S173) (hx:xs.length≤1048576):∀ (d n:Nat),n + d = xs.length →
  Ev (fun k => laws_toSpotS.l0 k xs ((xs.map toSpot).take n++List.replicate d z145) (n:Int)) (xs.map toSpot):=by
 intro d
 induction d with
 | zero =>
  intro n h
  refine Ev.step (fun _ => rfl) ?_
  simp only [laws_toSpotS.l0]
  exact Ev.neg (by omega) (Ev.done (by rw [List.take_of_length_le (by simp;omega)];simp))
 | succ d ih =>
  intro n h
  refine Ev.step (fun _ => rfl) ?_
  simp only [laws_toSpotS.l0,wrap64_succ (show n≤9223372036854775806 by omega)]
  refine Ev.pos (by omega) (Ev.pos (by omega) (Ev.call rfl (Ev.pos (by simp;omega) (Ev.congr (fun k => ?_) (ih (n + 1) (by omega))))))
  rw [Int.toNat_natCast,set_fill (xs.map toSpot) n d z145 _ (by simpa using h) (by rw [List.getElem?_map,rdT173_get (show n < xs.length by omega)];rfl)]
theorem laws_toSpotS_ev (xs:List S173) (hx:xs.length≤1048576):Ev (fun k => laws_toSpotS.f k xs) (xs.map toSpot):=by
 unfold laws_toSpotS.f
 refine Ev.pos (by omega) (Ev.pos (by omega) ?_)
 exact Ev.congr (fun k => by simp) (laws_toSpotS_loop xs hx xs.length 0 (by omega))
theorem laws_eqSpot_refl (x0:ByteArray) (x1:Int) (x2:Int) (x3:Int):laws_eqSpot.f x0 x1 x2 x3 x0 x1 x2 x3 = some true:=by simp [laws_eqSpot.f]
theorem laws_eqSpotS_loop (xs:List S145) (hx:xs.length≤9223372036854775806):∀ (rest:List S145) (n:Nat),xs.drop n = rest→Ev (fun k => laws_eqSpotS.l0 k xs xs (n:Int)) true:=by
 intro rest
 induction rest with
 | nil =>
  intro n h
  have:=drop_nil h
  refine Ev.step (fun _ => rfl) ?_
  simp only [laws_eqSpotS.l0]
  exact Ev.neg (by omega) (Ev.now _)
 | cons x t ih =>
  intro n h
  obtain ⟨h1,-,h3⟩:=drop_cons h
  refine Ev.step (fun _ => rfl) ?_
  simp only [laws_eqSpotS.l0,wrap64_succ (show n≤9223372036854775806 by omega)]
  exact Ev.pos (by omega) (Ev.pos (by omega) (Ev.pos (by omega) (Ev.call (laws_eqSpot_refl _ _ _ _) (Ev.pos rfl (ih (n + 1) h3)))))
theorem laws_eqSpotS_refl (xs:List S145) (hx:xs.length≤9223372036854775806):Ev (fun k => laws_eqSpotS.f k xs xs) true :=
 Ev.pos rfl (laws_eqSpotS_loop xs hx xs 0 rfl)
def mkSpot (m:Int):S145:=⟨markTextOf (m),m + 1,m + 1 + 1,m + 1 + 1 + 1⟩
def markedSpot:List S145→Int→List S145
 | [],_ => []
 | _::t,m => mkSpot m::markedSpot t (m + 1 + 1 + 1 + 1)
theorem markedSpot_length:∀ (l:List S145) (m:Int),(markedSpot l m).length = l.length
 | [],_ => rfl
 | x::t,m => by rw [markedSpot,List.length_cons,List.length_cons,markedSpot_length t]
theorem laws_markSpotS_loop:∀ (rest done:List S145) (n:Nat) (m:Int),done.length = n→0≤m→m + 4 * (rest.length:Int)≤4611686018427387904→n + rest.length≤1152921504606846976 →
  Ev (fun k => laws_markSpotS.l0 k (done++rest) m (n:Int)) (m + 4 * (rest.length:Int),done++markedSpot rest m):=by
 intro rest
 induction rest with
 | nil =>
  intro done n m hd h0 hm hb
  refine Ev.step (fun _ => rfl) ?_
  simp only [laws_markSpotS.l0]
  exact Ev.neg (by rw [List.append_nil];omega) (Ev.done (by simp [markedSpot]))
 | cons x t ih =>
  intro done n m hd h0 hm hb
  have hn:n≤9223372036854775806:=by rw [List.length_cons] at hb;omega
  have hm':m + 4≤4611686018427387904:=by rw [List.length_cons] at hm;omega
  have w1:wrap64 (m + 1) = m + 1:=wrap64_id (by omega) (by omega)
  have w2:wrap64 (m + 1 + 1) = m + 1 + 1:=wrap64_id (by omega) (by omega)
  have w3:wrap64 (m + 1 + 1 + 1) = m + 1 + 1 + 1:=wrap64_id (by omega) (by omega)
  have w4:wrap64 (m + 1 + 1 + 1 + 1) = m + 1 + 1 + 1 + 1:=wrap64_id (by omega) (by omega)
  have ih:=ih (done++[mkSpot m]) (n + 1) (m + 1 + 1 + 1 + 1) (by simp [hd]) (by omega) (by rw [List.length_cons] at hm;omega) (by rw [List.length_cons] at hb;omega)
  refine Ev.step (fun _ => rfl) ?_
  simp only [laws_markSpotS.l0,wrap64_succ hn,Int.toNat_natCast,set_at hd,rdT145_at hd,Option.bind_some,w1,w2,w3,w4]
  repeat' first
   | refine Ev.pos (by first | omega | (simp only [List.length_append,List.length_cons];omega)) ?_
   | refine Ev.bind (laws_markText_ev _ (by omega)) ?_
  try simp only [Option.bind_some,set_at hd,rdT145_at hd]
  refine Ev.eq (Ev.congr (fun k => ?_) ih) ?_
  ·simp only [List.append_assoc,List.cons_append,List.nil_append];rfl
  ·rw [markedSpot,List.append_assoc,List.length_cons]
   refine Prod.ext ?_ rfl
   show (m + 1 + 1 + 1 + 1) + 4 * (t.length:Int) = m + 4 * ((t.length + 1:Nat):Int)
   omega
theorem laws_markSpotS_ev (l:List S145) (m:Int) (h0:0≤m) (hm:m + 4 * (l.length:Int)≤4611686018427387904) (hl:l.length≤1152921504606846976):Ev (fun k => laws_markSpotS.f k l m) (m + 4 * (l.length:Int),markedSpot l m) :=
 laws_markSpotS_loop l [] 0 m rfl h0 hm (by omega)
theorem laws_heldSpotS_loop (xs:List S145) (hx:xs.length≤1152921504606846976):∀ (rest:List S145) (n:Nat) (m:Int),xs.drop n = markedSpot rest m→0≤m→m + 4 * (rest.length:Int)≤4611686018427387904 →
  Ev (fun k => laws_heldSpotS.l0 k xs m (n:Int)) (m + 4 * (rest.length:Int)):=by
 intro rest
 induction rest with
 | nil =>
  intro n m h h0 hm
  have:=drop_nil h
  refine Ev.step (fun _ => rfl) ?_
  simp only [laws_heldSpotS.l0]
  exact Ev.neg (by omega) (Ev.done (by simp))
 | cons x t ih =>
  intro n m h h0 hm
  rw [markedSpot] at h
  obtain ⟨h1,-,h3⟩:=drop_cons h
  have hm':m + 4≤4611686018427387904:=by rw [List.length_cons] at hm;omega
  have w1:wrap64 (m + 1) = m + 1:=wrap64_id (by omega) (by omega)
  have w2:wrap64 (m + 1 + 1) = m + 1 + 1:=wrap64_id (by omega) (by omega)
  have w3:wrap64 (m + 1 + 1 + 1) = m + 1 + 1 + 1:=wrap64_id (by omega) (by omega)
  have w4:wrap64 (m + 1 + 1 + 1 + 1) = m + 1 + 1 + 1 + 1:=wrap64_id (by omega) (by omega)
  have ih:=ih (n + 1) (m + 1 + 1 + 1 + 1) h3 (by omega) (by rw [List.length_cons] at hm;omega)
  refine Ev.step (fun _ => rfl) ?_
  simp only [laws_heldSpotS.l0,wrap64_succ (show n≤9223372036854775806 by omega),rdT145_drop h,w1,w2,w3,w4]
  refine Ev.pos (by omega) (Ev.pos (by omega) (Ev.bind (laws_markText_ev (m) (by omega)) (Ev.pos rfl (Ev.pos rfl (Ev.pos rfl (Ev.pos rfl (?_)))))))
  refine Ev.eq ih ?_
  rw [List.length_cons]
  show (m + 1 + 1 + 1 + 1) + 4 * (t.length:Int) = m + 4 * ((t.length + 1:Nat):Int)
  omega
theorem laws_heldSpotS_ev (l:List S145) (m:Int) (h0:0≤m) (hm:m + 4 * (l.length:Int)≤4611686018427387904) (hl:l.length≤1152921504606846976):Ev (fun k => laws_heldSpotS.f k (markedSpot l m) m) (m + 4 * (l.length:Int)) :=
 laws_heldSpotS_loop _ (by rw [markedSpot_length];omega) l 0 m rfl h0 hm
theorem spec_l01In_eq (a b c:Int):spec_l01In.f a b c = some (inR a b c):=by
 unfold spec_l01In.f inR
 by_cases h:b≤a
 ·rw [if_pos h];simp [h]
 ·rw [if_neg h];simp [h]
theorem impl_within_eq (a b c:Int):impl_within.f a b c = some (inR a b c):=by
 unfold impl_within.f inR
 by_cases h:b≤a
 ·rw [if_pos h];simp [h]
 ·rw [if_neg h];simp [h]
theorem spec_l07Rise_loop (xs:List Int) (lo hi:Int) (hx:xs.length≤9223372036854775806):∀ (rest:List Int) (n:Nat),xs.drop n = rest →
  Ev (fun k => spec_l07Rise.l0 k xs lo hi (n:Int)) (rise lo hi (prevOf xs n) rest):=by
 intro rest
 induction rest with
 | nil =>
  intro n h
  have:=drop_nil h
  refine Ev.step (fun _ => rfl) ?_
  simp only [spec_l07Rise.l0]
  exact Ev.neg (by omega) (Ev.done (by cases n <;> rfl))
 | cons x t ih =>
  intro n h
  obtain ⟨h1,-,h3⟩:=drop_cons h
  have ih:=ih (n + 1) h3
  rw [prevOf_next h] at ih
  refine Ev.step (fun _ => rfl) ?_
  simp only [spec_l07Rise.l0,drop_rd h,wrap64_succ (show n≤9223372036854775806 by omega)]
  refine Ev.pos (by omega) (Ev.pos (by omega) (Ev.call (spec_l01In_eq _ _ _) ?_))
  cases hb:inR x lo hi
  ·exact Ev.neg (by simp) (Ev.done (by cases n <;> simp [rise,prevOf,hb]))
  ·refine Ev.pos rfl ?_
   cases n with
   | zero => exact Ev.neg (by omega) (Ev.eq ih (by simp [rise,prevOf,hb]))
   | succ m =>
    refine Ev.pos (by omega) ?_
    simp only [wrap64_pred (show m≤9223372036854775806 by omega)]
    refine Ev.pos (by omega) (Ev.pos (by omega) (Ev.ite (fun hc => Ev.done ?_) (fun hc => Ev.eq ih ?_)))
    ·simp only [prevOf,rise,hb,decide_eq_false (show ¬ rd xs (m:Int) < x by omega)];simp
    ·simp only [prevOf,rise,hb,decide_eq_true (show rd xs (m:Int) < x by omega)];simp
theorem spec_l07Rise_ev (xs:List Int) (lo hi:Int) (hx:xs.length≤9223372036854775806):Ev (fun k => spec_l07Rise.f k xs lo hi) (rise lo hi none xs) :=
 spec_l07Rise_loop xs lo hi hx xs 0 rfl
theorem spec_ConfOk_ev (xs:List Int) (hx:xs.length≤9223372036854775806):Ev (fun k => spec_ConfOk.f k xs) (confOk xs):=by
 unfold spec_ConfOk.f
 refine Ev.call (spec_l01In_eq _ _ _) ?_
 cases hb:inR xs.length 1 4
 ·exact Ev.neg (by simp) (Ev.done (by simp [confOk,hb]))
 ·exact Ev.pos rfl (Ev.bind (spec_l07Rise_ev xs 1 4 hx) (Ev.done (by simp [confOk,hb])))
theorem impl_ConfOk_loop (xs:List Int) (hx:xs.length≤9223372036854775806):∀ (rest:List Int) (n:Nat),xs.drop n = rest →
  Ev (fun k => impl_ConfOk.l0 k xs xs (xs.length:Int) (n:Int)) (rise 1 4 (prevOf xs n) rest && inR xs.length 1 4):=by
 intro rest
 induction rest with
 | nil =>
  intro n h
  have:=drop_nil h
  refine Ev.step (fun _ => rfl) ?_
  simp only [impl_ConfOk.l0]
  exact Ev.neg (by omega) (Ev.call (impl_within_eq _ _ _) (Ev.done (by cases n <;> simp [rise])))
 | cons x t ih =>
  intro n h
  obtain ⟨h1,-,h3⟩:=drop_cons h
  have ih:=ih (n + 1) h3
  rw [prevOf_next h] at ih
  refine Ev.step (fun _ => rfl) ?_
  simp only [impl_ConfOk.l0,drop_rd h,wrap64_succ (show n≤9223372036854775806 by omega)]
  refine Ev.pos (by omega) (Ev.pos (by omega) (Ev.pos (by omega) (Ev.call (impl_within_eq _ _ _) ?_)))
  cases hb:inR x 1 4
  ·exact Ev.neg (by simp) (Ev.done (by cases n <;> simp [rise,prevOf,hb]))
  ·refine Ev.pos rfl ?_
   cases n with
   | zero => exact Ev.neg (by omega) (Ev.eq ih (by simp [rise,prevOf,hb]))
   | succ m =>
    refine Ev.pos (by omega) ?_
    simp only [wrap64_pred (show m≤9223372036854775806 by omega)]
    refine Ev.pos (by omega) (Ev.pos (by omega) (Ev.ite (fun hc => Ev.done ?_) (fun hc => Ev.eq ih ?_)))
    ·simp only [prevOf,rise,hb,decide_eq_false (show ¬ rd xs (m:Int) < x by omega)];simp
    ·simp only [prevOf,rise,hb,decide_eq_true (show rd xs (m:Int) < x by omega)];simp
theorem impl_ConfOk_ev (xs:List Int) (hx:xs.length≤9223372036854775806):Ev (fun k => impl_ConfOk.f k xs) (confOk xs) :=
 Ev.eq (impl_ConfOk_loop xs hx xs 0 rfl) (by rw [confOk,Bool.and_comm];rfl)
theorem laws_toIntS_loop (xs:List Int) (hx:xs.length≤1048576):∀ (d n:Nat),n + d = xs.length →
  Ev (fun k => laws_toIntS.l0 k xs (xs.take n++List.replicate d 0) (n:Int)) xs:=by
 intro d
 induction d with
 | zero =>
  intro n h
  refine Ev.step (fun _ => rfl) ?_
  simp only [laws_toIntS.l0]
  exact Ev.neg (by omega) (Ev.done (by rw [List.take_of_length_le (by omega)];simp))
 | succ d ih =>
  intro n h
  refine Ev.step (fun _ => rfl) ?_
  simp only [laws_toIntS.l0,wrap64_succ (show n≤9223372036854775806 by omega)]
  refine Ev.pos (by omega) (Ev.pos (by omega) (Ev.pos (by simp;omega) (Ev.eq (Ev.congr (fun k => ?_) (ih (n + 1) (by omega))) rfl)))
  rw [Int.toNat_natCast,set_fill xs n d 0 _ h (by rw [rd_nat];exact getD_get (by omega))]
theorem laws_toIntS_ev (xs:List Int) (hx:xs.length≤1048576):Ev (fun k => laws_toIntS.f k xs) xs:=by
 unfold laws_toIntS.f
 refine Ev.pos (by omega) (Ev.pos (by omega) ?_)
 exact Ev.congr (fun k => by simp) (laws_toIntS_loop xs hx xs.length 0 (by omega))
theorem laws_eqIntS_loop (xs:List Int) (hx:xs.length≤9223372036854775806):∀ (rest:List Int) (n:Nat),xs.drop n = rest→Ev (fun k => laws_eqIntS.l0 k xs xs (n:Int)) true:=by
 intro rest
 induction rest with
 | nil =>
  intro n h
  have:=drop_nil h
  refine Ev.step (fun _ => rfl) ?_
  simp only [laws_eqIntS.l0]
  exact Ev.neg (by omega) (Ev.now _)
 | cons x t ih =>
  intro n h
  obtain ⟨h1,-,h3⟩:=drop_cons h
  refine Ev.step (fun _ => rfl) ?_
  simp only [laws_eqIntS.l0,wrap64_succ (show n≤9223372036854775806 by omega)]
  exact Ev.pos (by omega) (Ev.pos (by omega) (Ev.pos (by omega) (Ev.pos trivial (ih (n + 1) h3))))
theorem laws_eqIntS_refl (xs:List Int) (hx:xs.length≤9223372036854775806):Ev (fun k => laws_eqIntS.f k xs xs) true :=
 Ev.pos rfl (laws_eqIntS_loop xs hx xs 0 rfl)
theorem laws_markIntS_loop (m:Int) (hm:0≤m) (hm':m≤1152921504606846976):∀ (d:Nat) (n:Nat) (rest:List Int),rest.length = d→n + d≤1152921504606846976 →
  Ev (fun k => laws_markIntS.l0 k (upFrom m n++rest) (m + n) (n:Int)) (m + ((n + d:Nat):Int),upFrom m (n + d)):=by
 intro d
 induction d with
 | zero =>
  intro n rest h hn
  obtain rfl:rest = []:=List.eq_nil_of_length_eq_zero h
  refine Ev.step (fun _ => rfl) ?_
  simp only [laws_markIntS.l0]
  exact Ev.neg (by simp [upFrom_length]) (Ev.done (by simp))
 | succ d ih =>
  intro n rest h hn
  obtain ⟨x,t,rfl⟩:∃ x t,rest = x::t:=by cases rest with | nil => simp at h | cons x t => exact ⟨x,t,rfl⟩
  refine Ev.step (fun _ => rfl) ?_
  simp only [laws_markIntS.l0,wrap64_succ (show n≤9223372036854775806 by omega),Int.toNat_natCast,set_mark _ x (m + n) t n (upFrom_length n m),←upFrom_snoc]
  rw [wrap64_id (by omega) (by omega)]
  refine Ev.pos (by simp [upFrom_length];omega) (Ev.pos (by omega) (Ev.eq (Ev.congr (fun k => ?_) (ih (n + 1) t (by simpa using h) (by omega))) ?_))
  ·rw [show m + (n:Int) + 1 = m + ((n + 1:Nat):Int) by omega]
  ·rw [show n + 1 + d = n + (d + 1) by omega]
theorem laws_markIntS_ev (l:List Int) (m:Int) (hm:0≤m) (hm':m≤1152921504606846976) (hl:l.length≤1152921504606846976):Ev (fun k => laws_markIntS.f k l m) (m + (l.length:Int),upFrom m l.length):=by
 have:=laws_markIntS_loop m hm hm' l.length 0 l rfl (by omega)
 unfold laws_markIntS.f;simpa [upFrom] using this
theorem laws_heldIntS_loop (m:Int) (N:Nat) (hm:0≤m) (hm':m≤1152921504606846976) (hN:N≤1152921504606846976):∀ (d:Nat) (n:Nat),n + d = N →
  Ev (fun k => laws_heldIntS.l0 k (upFrom m N) (m + n) (n:Int)) (m + (N:Int)):=by
 intro d
 induction d with
 | zero =>
  intro n h
  refine Ev.step (fun _ => rfl) ?_
  simp only [laws_heldIntS.l0,upFrom_length]
  exact Ev.neg (by omega) (Ev.done (by omega))
 | succ d ih =>
  intro n h
  refine Ev.step (fun _ => rfl) ?_
  simp only [laws_heldIntS.l0,upFrom_length,wrap64_succ (show n≤9223372036854775806 by omega),rd_nat,upFrom_get N n m (by omega)]
  rw [wrap64_id (by omega) (by omega)]
  refine Ev.pos (by omega) (Ev.pos (by omega) (Ev.pos trivial (Ev.congr (fun k => ?_) (ih (n + 1) (by omega)))))
  rw [show m + (n:Int) + 1 = m + ((n + 1:Nat):Int) by omega]
theorem laws_heldIntS_ev (m:Int) (N:Nat) (hm:0≤m) (hm':m≤1152921504606846976) (hN:N≤1152921504606846976):Ev (fun k => laws_heldIntS.f k (upFrom m N) m) (m + (N:Int)):=by
 have:=laws_heldIntS_loop m N hm hm' hN N 0 (by omega)
 unfold laws_heldIntS.f;simpa using this
theorem spec_l09In_loop (xs:List Int) (v:Int) (hx:xs.length≤9223372036854775806):∀ (rest:List Int) (n:Nat),xs.drop n = rest →
  Ev (fun k => spec_l09In.l0 k xs v (n:Int)) (rest.contains v):=by
 intro rest
 induction rest with
 | nil =>
  intro n h
  have:=drop_nil h
  refine Ev.step (fun _ => rfl) ?_
  simp only [spec_l09In.l0]
  exact Ev.neg (by omega) (Ev.done (by simp))
 | cons x t ih =>
  intro n h
  obtain ⟨h1,-,h3⟩:=drop_cons h
  refine Ev.step (fun _ => rfl) ?_
  simp only [spec_l09In.l0,drop_rd h,wrap64_succ (show n≤9223372036854775806 by omega)]
  refine Ev.pos (by omega) (Ev.pos (by omega) (Ev.ite (fun hc => Ev.done ?_) (fun hc => Ev.eq (ih (n + 1) h3) ?_)))
  ·rw [List.contains_cons,hc];simp
  ·rw [List.contains_cons,beq_eq_false_iff_ne.2 (fun e => hc e.symm)];simp
theorem spec_l09In_ev (xs:List Int) (v:Int) (hx:xs.length≤9223372036854775806):Ev (fun k => spec_l09In.f k xs v) (xs.contains v):=spec_l09In_loop xs v hx xs 0 rfl
theorem spec_l01Var_loop:∀ (n:Nat) (acc:List Int),acc.length + n < 140737488355328 →
  Ev (fun k => spec_l01Var.l0 k (n:Int) acc) (strOfNums (acc++varL n)):=by
 intro n
 induction n using Nat.strongRecOn with
 | ind n ih =>
  intro acc h
  refine Ev.step (fun _ => rfl) ?_
  simp only [spec_l01Var.l0,tdiv128 n (by omega),tmod128 n]
  refine Ev.ite (fun hc => ?_) (fun hc => ?_)
  ·rw [varL_big (by omega)]
   exact Ev.pos (by omega) (Ev.eq (ih (n / 128) (by omega) _ (by simp;omega)) (by simp))
  ·rw [varL_small (by omega)]
   exact Ev.pos (by omega) (Ev.done (by rw [Int.emod_eq_of_lt (by omega) (by omega)]))
theorem spec_l01Var_nat (n:Nat) (h:n≤34359738367):Ev (fun k => spec_l01Var.f k (n:Int)) (varText n):=spec_l01Var_loop n [] (by simp;omega)
theorem spec_l01Var_ev (n:Int) (h0:0≤n) (h:n≤34359738367):Ev (fun k => spec_l01Var.f k n) (varText n.toNat):=by
 obtain ⟨m,rfl⟩:=Int.eq_ofNat_of_zero_le h0
 exact spec_l01Var_nat m (by omega)
theorem impl_VarText_loop:∀ (n:Nat) (acc:List Int),acc.length + n < 140737488355328 →
  Ev (fun k => impl_VarText.l0 k (n:Int) acc) (strOfNums (acc++varL n),true):=by
 intro n
 induction n using Nat.strongRecOn with
 | ind n ih =>
  intro acc h
  refine Ev.step (fun _ => rfl) ?_
  simp only [impl_VarText.l0,tdiv128 n (by omega),tmod128 n]
  refine Ev.ite (fun hc => ?_) (fun hc => ?_)
  ·rw [varL_big (by omega)]
   exact Ev.pos (by omega) (Ev.eq (ih (n / 128) (by omega) _ (by simp;omega)) (by simp))
  ·rw [varL_small (by omega)]
   exact Ev.pos (by omega) (Ev.done (by rw [Int.emod_eq_of_lt (by omega) (by omega)]))
theorem impl_VarText_ev (n:Int):Ev (fun k => impl_VarText.f k n) (varTextOf n):=by
 unfold impl_VarText.f varTextOf
 refine Ev.call (impl_within_eq _ _ _) ?_
 cases hb:inR n 0 1000000000
 ·exact Ev.neg (by simp) (Ev.done (by simp))
 ·have:=inR_true.1 hb
  obtain ⟨m,rfl⟩:=Int.eq_ofNat_of_zero_le this.1
  exact Ev.pos rfl (Ev.eq (impl_VarText_loop m [] (by simp;omega)) (by simp [varText]))
theorem impl_VarText_nat (n:Nat) (h:n≤1000000000):Ev (fun k => impl_VarText.f k (n:Int)) (varText n,true) :=
 Ev.eq (impl_VarText_ev (n:Int)) (by rw [varTextOf,if_pos (inR_true.2 (by omega))];rfl)
theorem impl_vars_loop (xs:List Int) (hx:xs.length≤1048576):∀ (rest:List Int) (n:Nat) (acc:List Int),xs.drop n = rest→acc.length + 5 * rest.length < 140737488355328 →
  Ev (fun k => impl_vars.l0 k acc xs (xs.length:Int) (n:Int)) (if rest.all (fun n => inR n 0 1000000000) = true then (strOfNums (acc++rest.flatMap fun n => varL n.toNat),true) else (⟨#[]⟩,false)):=by
 intro rest
 induction rest with
 | nil =>
  intro n acc h ha
  have:=drop_nil h
  refine Ev.step (fun _ => rfl) ?_
  simp only [impl_vars.l0]
  exact Ev.neg (by omega) (Ev.done (by simp))
 | cons x t ih =>
  intro n acc h ha
  obtain ⟨h1,-,h3⟩:=drop_cons h
  refine Ev.step (fun _ => rfl) ?_
  simp only [impl_vars.l0,drop_rd h,wrap64_succ (show n≤9223372036854775806 by omega)]
  refine Ev.pos (by omega) (Ev.pos (by omega) (Ev.pos (by omega) (Ev.bind (impl_VarText_ev x) ?_)))
  unfold varTextOf
  cases hb:inR x 0 1000000000
  ·exact Ev.neg (by simp) (Ev.done (by simp [hb]))
  ·have hr:=inR_true.1 hb
   have hv:=varL_len (show x.toNat≤34359738367 by omega)
   simp only [if_true,varText,strOfNums_size,bytesOf_strOfNums _ (varL_bytes _)]
   rw [List.length_cons] at ha
   refine Ev.pos (by omega) (Ev.eq (ih (n + 1) (acc++varL x.toNat) h3 (by rw [List.length_append];omega)) ?_)
   simp [hb]
theorem impl_vars_ev (xs:List Int) (hx:xs.length≤1048576):Ev (fun k => impl_vars.f k xs) (varsOf xs) :=
 Ev.eq (impl_vars_loop xs hx xs 0 [] rfl (by simp;omega)) (by simp [varsOf])
theorem spec_l02Four_eq (x:Int):spec_l02Four.f x = some (four x):=rfl
theorem spec_SumMore_bits (s:ByteArray) (i:Nat) (hi:i≤9223372036854775806) (r:Int):∀ (d:Nat) (x:Int) (j:Nat),j + d = 8 →
  Ev (fun k => spec_SumMore.l0 k (sumBits d x) s ((i + 1:Nat):Int)) r→Ev (fun k => spec_SumMore.l1 k x s (i:Int) (j:Int)) r:=by
 intro d
 induction d with
 | zero =>
  intro x j hj h
  refine Ev.step (fun _ => rfl) ?_
  simp only [spec_SumMore.l1,wrap64_succ hi]
  exact Ev.neg (by omega) h
 | succ d ih =>
  intro x j hj h
  refine Ev.step (fun _ => rfl) ?_
  simp only [spec_SumMore.l1,wrap64_succ (show j≤9223372036854775806 by omega)]
  refine Ev.pos (by omega) (Ev.ite (fun hc => ih _ (j + 1) (by omega) ?_) (fun hc => ih _ (j + 1) (by omega) ?_))
  ·rw [sumBits,sumBit,if_pos hc] at h;exact h
  ·rw [sumBits,sumBit,if_neg hc] at h;exact h
theorem spec_SumMore_loop (s:ByteArray) (hs:s.size≤9223372036854775806):∀ (rest:List Int) (n:Nat) (x:Int),(bytesOf s).drop n = rest →
  Ev (fun k => spec_SumMore.l0 k x s (n:Int)) (sumMore x rest):=by
 intro rest
 induction rest with
 | nil =>
  intro n x h
  have:=bytesOf_drop_nil h
  refine Ev.step (fun _ => rfl) ?_
  simp only [spec_SumMore.l0]
  exact Ev.neg (by omega) (Ev.done rfl)
 | cons b t ih =>
  intro n x h
  obtain ⟨h1,h2,h3,h4,h5⟩:=bytesOf_drop_lt h
  refine Ev.step (fun _ => rfl) ?_
  simp only [spec_SumMore.l0,h2]
  exact Ev.pos (by omega) (Ev.pos (by omega) (spec_SumMore_bits s n (by omega) _ 8 _ 0 rfl (ih (n + 1) _ h3)))
theorem spec_SumMore_ev (x:Int) (s:ByteArray) (hs:s.size≤9223372036854775806):Ev (fun k => spec_SumMore.f k x s) (sumMore x (bytesOf s)):=spec_SumMore_loop s hs _ 0 x rfl
theorem spec_SumOf_ev (s:ByteArray) (hs:s.size≤9223372036854775806):Ev (fun k => spec_SumOf.f k s) (sumOf s):=Ev.bind (spec_SumMore_ev _ s hs) (Ev.now _)
theorem impl_SumMore_bits (s:ByteArray) (i:Nat) (hi:i≤9223372036854775806) (r:Int):∀ (d:Nat) (x:Int) (j:Nat),j + d = 8 →
  Ev (fun k => impl_SumMore.l0 k (sumBits d x) s ((i + 1:Nat):Int)) r→Ev (fun k => impl_SumMore.l1 k x s (i:Int) (j:Int)) r:=by
 intro d
 induction d with
 | zero =>
  intro x j hj h
  refine Ev.step (fun _ => rfl) ?_
  simp only [impl_SumMore.l1,wrap64_succ hi]
  exact Ev.neg (by omega) h
 | succ d ih =>
  intro x j hj h
  refine Ev.step (fun _ => rfl) ?_
  simp only [impl_SumMore.l1,wrap64_succ (show j≤9223372036854775806 by omega)]
  refine Ev.pos (by omega) (Ev.ite (fun hc => ih _ (j + 1) (by omega) ?_) (fun hc => ih _ (j + 1) (by omega) ?_))
  ·rw [sumBits,sumBit,if_pos hc] at h;exact h
  ·rw [sumBits,sumBit,if_neg hc] at h;exact h
theorem impl_SumMore_loop (s:ByteArray) (hs:s.size≤9223372036854775806):∀ (rest:List Int) (n:Nat) (x:Int),(bytesOf s).drop n = rest →
  Ev (fun k => impl_SumMore.l0 k x s (n:Int)) (sumMore x rest):=by
 intro rest
 induction rest with
 | nil =>
  intro n x h
  have:=bytesOf_drop_nil h
  refine Ev.step (fun _ => rfl) ?_
  simp only [impl_SumMore.l0]
  exact Ev.neg (by omega) (Ev.done rfl)
 | cons b t ih =>
  intro n x h
  obtain ⟨h1,h2,h3,h4,h5⟩:=bytesOf_drop_lt h
  refine Ev.step (fun _ => rfl) ?_
  simp only [impl_SumMore.l0,h2]
  exact Ev.pos (by omega) (Ev.pos (by omega) (impl_SumMore_bits s n (by omega) _ 8 _ 0 rfl (ih (n + 1) _ h3)))
theorem impl_SumMore_ev (x:Int) (s:ByteArray) (hs:s.size≤9223372036854775806):Ev (fun k => impl_SumMore.f k x s) (sumMore x (bytesOf s)):=impl_SumMore_loop s hs _ 0 x rfl
theorem impl_SumOf_ev (s:ByteArray) (hs:s.size≤9223372036854775806):Ev (fun k => impl_SumOf.f k s) (sumOf s):=Ev.bind (impl_SumMore_ev _ s hs) (Ev.now _)
theorem spec_Frame_ev (s:ByteArray) (hs:s.size≤1152921504606846976):Ev (fun k => spec_Frame.f k s) (frame s):=by
 unfold spec_Frame.f frame
 refine Ev.call (spec_l01In_eq _ _ _) ?_
 cases hb:inR (s.size:Int) 1 9000
 ·exact Ev.neg (by simp) (Ev.done (by simp))
 ·have hr:=inR_true.1 hb
  have hv:=varText_size (show s.size≤34359738367 by omega)
  have h4:=four_size (sumOf s)
  refine Ev.pos rfl (Ev.bind (spec_l01Var_nat _ (by omega)) (Ev.bind (spec_SumOf_ev s (by omega)) (Ev.call (spec_l02Four_eq _) ?_)))
  exact Ev.pos (by omega) (Ev.pos (by rw [size_append];omega) (Ev.done (by simp)))
theorem impl_Frame_ev (s:ByteArray) (hs:s.size≤1152921504606846976):Ev (fun k => impl_Frame.f k s) (frame s):=by
 unfold impl_Frame.f frame
 refine Ev.call (impl_within_eq _ _ _) ?_
 cases hb:inR (s.size:Int) 1 9000
 ·exact Ev.neg (by simp) (Ev.done (by simp))
 ·have hr:=inR_true.1 hb
  have hv:=varText_size (show s.size≤34359738367 by omega)
  have h4:=four_size (sumOf s)
  refine Ev.pos rfl (Ev.bind (impl_VarText_nat _ (by omega)) (Ev.bind (impl_SumOf_ev s (by omega)) (Ev.call rfl ?_)))
  rw [four] at h4
  exact Ev.pos (by dsimp only;omega) (Ev.pos (by rw [size_append];dsimp only;omega) (Ev.done (by simp [four])))
theorem spec_l05Short_ev (s:ByteArray) (hs:s.size≤1073741824):Ev (fun k => spec_l05Short.f k s) (shortText s):=by
 have h:=varText_size (show s.size≤34359738367 by omega)
 exact Ev.bind (spec_l01Var_nat _ (by omega)) (Ev.pos (by omega) (Ev.now _))
theorem impl_ShortText_ev (s:ByteArray) (hs:s.size≤20000):Ev (fun k => impl_ShortText.f k s) (shortText s,true):=by
 have h:=varText_size (show s.size≤34359738367 by omega)
 exact Ev.neg (by omega) (Ev.bind (impl_VarText_nat _ (by omega)) (Ev.pos (by dsimp only;omega) (Ev.now _)))
theorem impl_short_ev (s:ByteArray) (hs:s.size≤20000):Ev (fun k => impl_short.f k s) (shortText s):=Ev.bind (impl_ShortText_ev s hs) (Ev.now _)
theorem spec_ReadVar_loop (s:ByteArray) (a:Nat) (hs:s.size≤1152921504606846976) (ha:a≤s.size):∀ (k:Nat) (rest done:List Int) (i:Nat),i + k = 5→done.length = i→(bytesOf s).drop a = done++rest →
  Ev (fun K => spec_ReadVar.l0 K s (a:Int) (val done:Int) ((128 ^ i:Nat):Int) ((a + i:Nat):Int))
   (match varSeg k rest with | none => (0,0,false) | some bs => if val (done++bs)≤1000000000∧varL (val (done++bs)) = done++bs then ((val (done++bs):Int),((a + (done++bs).length:Nat):Int),true) else (0,0,false)):=by
 intro k
 have hz:=bytesOf_length s
 have no:∀ (x7 x8 x9:Int) r,r = (0,0,false)→Ev (fun K => spec_ReadVar.j1 K s (a:Int) x7 x8 x9 false) r:=by
  rintro x7 x8 x9 r rfl
  refine Ev.step (fun _ => rfl) ?_
  simp only [spec_ReadVar.j1]
  exact Ev.neg (by simp) (Ev.now _)
 induction k with
 | zero =>
  intro rest done i hi hd hr
  refine Ev.step (fun _ => rfl) ?_
  simp only [spec_ReadVar.l0,wrap64_id (show -9223372036854775808≤(a:Int) + 5 by omega) (show (a:Int) + 5≤9223372036854775807 by omega)]
  refine Ev.ite (fun _ => ?_) (fun _ => no _ _ _ _ rfl)
  rw [decide_eq_false (by omega)]
  exact no _ _ _ _ rfl
 | succ k ih =>
  intro rest done i hi hd hr
  have hl:done.length + rest.length = s.size - a:=by rw [←List.length_append,←hr,List.length_drop,hz]
  cases rest with
  | nil =>
   refine Ev.step (fun _ => rfl) ?_
   simp only [spec_ReadVar.l0]
   rw [List.length_nil] at hl
   exact Ev.neg (by omega) (no _ _ _ _ rfl)
  | cons b t =>
   have hbt:bt s ((a + i:Nat):Int) = b:=by
    rw [←rd_bytesOf,rd_nat]
    have e:(bytesOf s).drop (a + i) = b::t:=by rw [←List.drop_drop,hr,List.drop_append_of_le_length (by omega),←hd,List.drop_length,List.nil_append]
    exact (drop_cons e).2.1 0
   have hb:=bytesOf_range s b (by
    have:b∈(bytesOf s).drop a:=by rw [hr];simp
    exact List.mem_of_mem_drop this)
   rw [List.length_cons] at hl
   have hsc:=scale_bound (show i≤5 by omega)
   have hvd:=val_lt done
   rw [hd] at hvd
   have e1:Int.tmod (wrap64 b) 128 = b % 128:=byte_mod hb.1 hb.2
   have hpos:0 < 128 ^ i:=Nat.pow_pos (by omega)
   have hmul:(b % 128) * ((128 ^ i:Nat):Int) = (((b % 128).toNat * 128 ^ i:Nat):Int):=by
    rw [Int.natCast_mul,Int.toNat_of_nonneg (by omega)]
   have hmb:(b % 128).toNat * 128 ^ i≤127 * 128 ^ i:=Nat.mul_le_mul_right _ (by omega)
   have e2:wrap64 ((val done:Int) + wrap64 (Int.tmod (wrap64 b) 128 * ((128 ^ i:Nat):Int))) = (val (done++[b]):Int):=by
    rw [e1,hmul,wrap64_id (n:=(((b % 128).toNat * 128 ^ i:Nat):Int)) (by omega) (by omega),wrap64_id (by omega) (by omega),val_append,hd]
    rw [show val [b] = (b % 128).toNat by simp [val],Nat.mul_comm (128 ^ i)]
    omega
   have hval:val (done++[b]) < 128 ^ (i + 1):=by
    have:=val_lt (done++[b])
    rwa [List.length_append,hd] at this
   have hsc':=scale_bound (show i + 1≤5 by omega)
   refine Ev.step (fun _ => rfl) ?_
   simp only [spec_ReadVar.l0,wrap64_id (show -9223372036854775808≤(a:Int) + 5 by omega) (show (a:Int) + 5≤9223372036854775807 by omega)]
   rw [decide_eq_true (show ((a + i:Nat):Int) < (a:Int) + 5 by omega)]
   refine Ev.pos (by omega) (Ev.step (fun _ => rfl) ?_)
   simp only [spec_ReadVar.j1,hbt,e2,wrap64_succ (show a + i≤9223372036854775806 by omega)]
   refine Ev.pos trivial (Ev.pos (by omega) (Ev.pos (by omega) (Ev.ite (fun hlt => ?_) (fun hge => ?_))))
   ·rw [varSeg,if_pos hlt]
    simp only []
    refine Ev.ite (fun hbig => Ev.done ?_) (fun hsmall => ?_)
    ·rw [if_neg (by omega)]
    ·have hex:(s.extract (a:Int).toNat ((a + i + 1:Nat):Int).toNat).toList = (strOfNums (done++[b])).toList:=by
      rw [toList_iff,bytesOf_extract,Int.toNat_natCast,Int.toNat_natCast,List.drop_take,hr,bytesOf_strOfNums _ (by
       intro x hx
       refine bytesOf_range s x ?_
       have:x∈(bytesOf s).drop a:=by rw [hr];rcases List.mem_append.1 hx with h | h <;> simp_all
       exact List.mem_of_mem_drop this)]
      rw [show a + i + 1 - a = done.length + 1 by omega]
      rw [List.take_append,List.take_of_length_le (by omega)]
      simp
     refine Ev.bind (spec_l01Var_nat _ (by omega)) (Ev.pos (by omega) (Ev.pos (by omega) (Ev.pos (by omega) ?_)))
     rw [hex]
     have hiff:(varText (val (done++[b]))).toList = (strOfNums (done++[b])).toList↔varL (val (done++[b])) = done++[b]:=by
      rw [toList_iff,bytesOf_varText,bytesOf_strOfNums _ (by
       intro x hx
       refine bytesOf_range s x ?_
       have:x∈(bytesOf s).drop a:=by rw [hr];rcases List.mem_append.1 hx with h | h <;> simp_all
       exact List.mem_of_mem_drop this)]
     refine Ev.ite (fun hc => Ev.done ?_) (fun hc => Ev.done ?_)
     ·rw [if_pos ⟨by omega,hiff.1 hc⟩,List.length_append,hd];rfl
     ·rw [if_neg (fun h => hc (hiff.2 h.2))]
   ·have ih:=ih t (done++[b]) (i + 1) (by omega) (by simp [hd]) (by rw [hr];simp)
    rw [varSeg,if_neg hge]
    have e3:wrap64 (((128 ^ i:Nat):Int) * 128) = ((128 ^ (i + 1):Nat):Int):=by
     rw [wrap64_id (by omega) (by omega),Nat.pow_succ,Int.natCast_mul];rfl
    rw [e3]
    refine Ev.eq ih ?_
    cases varSeg k t with
    | none => rfl
    | some bs => simp only [Option.map_some,List.append_assoc,List.cons_append,List.nil_append]
theorem spec_ReadVar_ev (s:ByteArray) (a:Int) (hs:s.size≤1152921504606846976):Ev (fun k => spec_ReadVar.f k s a) (readVar s a):=by
 unfold spec_ReadVar.f readVar
 refine Ev.call (spec_l01In_eq _ _ _) ?_
 cases hb:inR a 0 s.size
 ·exact Ev.neg (by simp) (Ev.done (by simp))
 ·have hr:=inR_true.1 hb
  obtain ⟨n,rfl⟩:=Int.eq_ofNat_of_zero_le hr.1
  refine Ev.pos rfl (Ev.eq (spec_ReadVar_loop s n hs (by omega) 5 ((bytesOf s).drop n) [] 0 rfl rfl rfl) ?_)
  rw [if_pos rfl,Int.toNat_natCast,readVarL]
  cases varSeg 5 ((bytesOf s).drop n) with
  | none => rfl
  | some bs =>
   simp only [List.nil_append]
   by_cases hc:val bs≤1000000000∧varL (val bs) = bs
   ·rw [if_pos hc,if_pos hc];simp
   ·rw [if_neg hc,if_neg hc]
theorem impl_ReadVar_loop (s:ByteArray) (a:Nat) (hs:s.size≤1152921504606846976) (ha:a≤s.size):∀ (k:Nat) (rest done:List Int) (i:Nat),i + k = 5→done.length = i→(bytesOf s).drop a = done++rest→(∀ bs,varSeg k rest = some bs→varSeg 5 ((bytesOf s).drop a) = some (done++bs)) →
  Ev (fun K => impl_ReadVar.l0 K s (a:Int) (val done:Int) (i:Int))
   (match varSeg k rest with | none => (0,0,false) | some bs => if val (done++bs)≤1000000000∧varL (val (done++bs)) = done++bs then ((val (done++bs):Int),((a + (done++bs).length:Nat):Int),true) else (0,0,false)):=by
 intro k
 have hz:=bytesOf_length s
 have no:∀ (x7 x8:Int) r,r = (0,0,false)→Ev (fun K => impl_ReadVar.j1 K s (a:Int) x7 x8 false) r:=by
  rintro x7 x8 r rfl
  refine Ev.step (fun _ => rfl) ?_
  simp only [impl_ReadVar.j1]
  exact Ev.neg (by simp) (Ev.now _)
 induction k with
 | zero =>
  intro rest done i hi hd hr _
  refine Ev.step (fun _ => rfl) ?_
  simp only [impl_ReadVar.l0]
  exact Ev.neg (by omega) (no _ _ _ rfl)
 | succ k ih =>
  intro rest done i hi hd hr hseg
  have hl:done.length + rest.length = s.size - a:=by rw [←List.length_append,←hr,List.length_drop,hz]
  cases rest with
  | nil =>
   refine Ev.step (fun _ => rfl) ?_
   simp only [impl_ReadVar.l0]
   rw [List.length_nil] at hl
   refine Ev.pos (by omega) ?_
   rw [wrap64_id (by omega) (by omega),decide_eq_false (by omega)]
   exact no _ _ _ rfl
  | cons b t =>
   have e0:wrap64 ((a:Int) + (i:Int)) = ((a + i:Nat):Int):=by rw [wrap64_id (by omega) (by omega)];omega
   have hbt:bt s ((a + i:Nat):Int) = b:=by
    rw [←rd_bytesOf,rd_nat]
    have e:(bytesOf s).drop (a + i) = b::t:=by rw [←List.drop_drop,hr,List.drop_append_of_le_length (by omega),←hd,List.drop_length,List.nil_append]
    exact (drop_cons e).2.1 0
   have hb:=bytesOf_range s b (by
    have:b∈(bytesOf s).drop a:=by rw [hr];simp
    exact List.mem_of_mem_drop this)
   rw [List.length_cons] at hl
   have hsc:=scale_bound (show i≤5 by omega)
   have hvd:=val_lt done
   rw [hd] at hvd
   have e1:Int.tmod (wrap64 b) 128 = b % 128:=byte_mod hb.1 hb.2
   have hmul:(b % 128) * ((128 ^ i:Nat):Int) = (((b % 128).toNat * 128 ^ i:Nat):Int):=by
    rw [Int.natCast_mul,Int.toNat_of_nonneg (by omega)]
   have hmb:(b % 128).toNat * 128 ^ i≤127 * 128 ^ i:=Nat.mul_le_mul_right _ (by omega)
   have hpos:0 < 128 ^ i:=Nat.pow_pos (by omega)
   have e7:wrap64 (7 * (i:Int)) = 7 * (i:Int):=wrap64_id (by omega) (by omega)
   have hshl:shl .i64 (b % 128) (7 * (i:Int)) = (b % 128) * ((128 ^ i:Nat):Int):=by
    have hp:(2:Int) ^ min (7 * (i:Int)).toNat (IntKind.bits .i64) = ((128 ^ i:Nat):Int):=by
     rcases i with _ | _ | _ | _ | _ | i
     ·rfl
     ·rfl
     ·rfl
     ·rfl
     ·rfl
     ·omega
    unfold shl
    rw [hp,i64_w]
    exact wrap64_id (by omega) (by omega)
   have e2:wrap64 ((val done:Int) + shl .i64 (Int.tmod (wrap64 b) 128) (wrap64 (7 * (i:Int)))) = (val (done++[b]):Int):=by
    rw [e1,e7,hshl,hmul,wrap64_id (by omega) (by omega),val_append,hd]
    rw [show val [b] = (b % 128).toNat by simp [val],Nat.mul_comm (128 ^ i)]
    omega
   clear hsc hvd hmul hmb hpos hshl e1
   refine Ev.step (fun _ => rfl) ?_
   simp only [impl_ReadVar.l0,e0]
   refine Ev.pos (by omega) ?_
   rw [decide_eq_true (show ((a + i:Nat):Int) < (s.size:Int) by omega)]
   refine Ev.step (fun _ => rfl) ?_
   simp only [impl_ReadVar.j1,e0,hbt,e2,wrap64_succ (show i≤9223372036854775806 by omega),wrap64_succ (show a + i≤9223372036854775806 by omega)]
   rw [wrap64_id (n:=b) (by omega) (by omega)]
   refine Ev.pos trivial (Ev.pos (by omega) (Ev.pos (by omega) (Ev.pos (by rw [e7];omega) (Ev.ite (fun hlt => ?_) (fun hge => ?_)))))
   ·have hsg:=hseg [b] (by rw [varSeg,if_pos hlt])
    have hck:=varSeg_check (fun x hx => bytesOf_range s x (List.mem_of_mem_drop hx)) hsg
    rw [varSeg,if_pos hlt]
    simp only []
    by_cases hbig:val (done++[b])≤1000000000
    ·refine Ev.bind (impl_VarText_nat _ hbig) (Ev.pos rfl ?_)
     simp only [varText,strOfNums_size]
     have hlen:(done++[b]).length = i + 1:=by simp [hd]
     refine Ev.ite (fun hc => Ev.done ?_) (fun hc => Ev.done ?_)
     ·rw [if_pos ⟨hbig,hck.1 (by omega)⟩,hlen];rfl
     ·rw [if_neg (fun h => hc (by have:=hck.2 h.2;omega))]
    ·refine Ev.bind (Ev.eq (impl_VarText_ev _) (varTextOf_no (show ¬ ((val (done++[b]):Int)≤1000000000) by omega))) ?_
     refine Ev.neg (by simp) (Ev.done ?_)
     rw [if_neg (fun h => hbig h.1)]
   ·have ih:=ih t (done++[b]) (i + 1) (by omega) (by simp [hd]) (by rw [hr];simp) (fun bs hbs => by
     have:=hseg (b::bs) (by rw [varSeg,if_neg hge,hbs];rfl)
     rw [this];simp)
    rw [varSeg,if_neg hge]
    refine Ev.eq ih ?_
    cases varSeg k t with
    | none => rfl
    | some bs => simp only [Option.map_some,List.append_assoc,List.cons_append,List.nil_append]
theorem impl_ReadVar_ev (s:ByteArray) (a:Int) (hs:s.size≤1152921504606846976):Ev (fun k => impl_ReadVar.f k s a) (readVar s a):=by
 unfold impl_ReadVar.f readVar
 refine Ev.call (impl_within_eq _ _ _) ?_
 cases hb:inR a 0 s.size
 ·exact Ev.neg (by simp) (Ev.done (by simp))
 ·have hr:=inR_true.1 hb
  obtain ⟨n,rfl⟩:=Int.eq_ofNat_of_zero_le hr.1
  refine Ev.pos rfl (Ev.eq (impl_ReadVar_loop s n hs (by omega) 5 ((bytesOf s).drop n) [] 0 rfl rfl rfl (fun bs h => h)) ?_)
  rw [if_pos rfl,Int.toNat_natCast,readVarL]
  cases varSeg 5 ((bytesOf s).drop n) with
  | none => rfl
  | some bs =>
   simp only [List.nil_append]
   by_cases hc:val bs≤1000000000∧varL (val bs) = bs
   ·rw [if_pos hc,if_pos hc];simp
   ·rw [if_neg hc,if_neg hc]
theorem spec_l05Var_ev (s:ByteArray) (a:Int) (bad:Bool) (hs:s.size≤1152921504606846976):Ev (fun k => spec_l05Var.f k s a bad) (curNum s a bad):=by
 unfold spec_l05Var.f curNum
 refine Ev.bind (spec_ReadVar_ev s a hs) (Ev.ite (fun h => Ev.done (by rw [if_pos h])) (fun h => Ev.ite (fun h' => Ev.done ?_) (fun h' => Ev.done ?_)))
 ·rw [if_neg h,if_pos h']
 ·rw [if_neg h,if_neg h']
theorem impl_reader_num_ev (s:ByteArray) (a:Int) (bad:Bool) (hs:s.size≤1152921504606846976):Ev (fun k => impl_reader_num.f k s a bad) (curNum s a bad):=by
 unfold impl_reader_num.f curNum
 refine Ev.bind (impl_ReadVar_ev s a hs) (Ev.ite (fun h => Ev.done (by rw [if_pos h])) (fun h => Ev.ite (fun h' => Ev.done ?_) (fun h' => Ev.done ?_)))
 ·rw [if_neg h,if_pos h']
 ·rw [if_neg h,if_neg h']
theorem spec_l05Take_eq (s:ByteArray) (a n:Int) (bad:Bool) (hs:s.size≤1152921504606846976) (h0:0≤a) (h1:a≤s.size) (hn:0≤n) (hn':n≤1152921504606846976):spec_l05Take.f s a bad n = some (curTake s a bad n):=by
 unfold spec_l05Take.f curTake
 by_cases h:bad = true
 ·rw [if_pos h,if_pos h]
 ·rw [if_neg h,if_neg h,wrap64_id (n:=(s.size:Int) - a) (by omega) (by omega),wrap64_id (n:=a + n) (by omega) (by omega),show a + n - n = a by omega,wrap64_id (n:=a) (by omega) (by omega)]
  by_cases hc:n > (s.size:Int) - a
  ·rw [if_pos hc,if_pos hc]
  ·rw [if_neg hc,if_neg hc,if_pos (by omega),if_pos (by omega),if_pos (by omega)]
theorem impl_reader_byte_eq (s:ByteArray) (a:Int) (bad:Bool) (hs:s.size≤1152921504606846976) (h0:0≤a) (h1:a≤s.size):impl_reader_byte.f s a bad = some (curByte s a bad):=by
 unfold impl_reader_byte.f curByte
 by_cases h:bad = true
 ·rw [if_pos h,if_pos h]
 ·rw [if_neg h,if_neg h,wrap64_id (n:=a + 1) (by omega) (by omega),show a + 1 - 1 = a by omega,wrap64_id (n:=a) (by omega) (by omega)]
  by_cases hc:a≥(s.size:Int)
  ·rw [if_pos hc,if_pos hc]
  ·have:=bt_range s a
   rw [if_neg hc,if_neg hc,if_pos (by omega),if_pos (by omega),wrap64_id (n:=bt s a) (by omega) (by omega)]
theorem spec_l05ReadShort_ev (s:ByteArray) (a:Int) (bad:Bool) (hs:s.size≤1152921504606846976) (h0:0≤a) (h1:a≤s.size):Ev (fun k => spec_l05ReadShort.f k s a bad) (curShort s a bad):=by
 unfold spec_l05ReadShort.f curShort
 have hp:=curNum_place (s:=s) (a:=a) (bad:=bad) h0 h1
 have hn:=curNum_nonneg s a bad
 refine Ev.bind (spec_l05Var_ev s a bad hs) ?_
 simp only [curNum_text]
 exact Ev.call (spec_l05Take_eq s _ _ _ hs hp.1 hp.2 hn.1 (by omega)) (Ev.now _)
theorem impl_ReadShort_ev (s:ByteArray) (a:Int) (hs:s.size≤1152921504606846976):Ev (fun k => impl_ReadShort.f k s a) (readShort s a):=by
 unfold impl_ReadShort.f readShort
 refine Ev.bind (impl_ReadVar_ev s a hs) (Ev.ite (fun h => ?_) (fun h => Ev.done (by rw [if_neg h])))
 have hr:=readVar_true (s:=s) (a:=a) (n:=(readVar s a).1) (b:=(readVar s a).2.1) (by rw [←h])
 rw [if_pos h,wrap64_id (n:=(s.size:Int) - (readVar s a).2.1) (by omega) (by omega)]
 refine Ev.ite (fun h2 => Ev.done (by rw [if_pos h2])) (fun h2 => Ev.ite (fun h3 => Ev.done (by rw [if_neg h2,if_pos h3])) (fun h3 => ?_))
 rw [if_neg h2,if_neg h3,wrap64_id (n:=(readVar s a).2.1 + (readVar s a).1) (by omega) (by omega)]
 exact Ev.pos (by omega) (Ev.pos (by omega) (Ev.pos (by omega) (Ev.now _)))
theorem impl_reader_text_ev (s:ByteArray) (a:Int) (bad:Bool) (hs:s.size≤1152921504606846976):Ev (fun k => impl_reader_text.f k s a bad) (curText s a bad):=by
 unfold impl_reader_text.f curText
 refine Ev.bind (impl_ReadShort_ev s a hs) (Ev.ite (fun h => Ev.done (by rw [if_pos h])) (fun h => Ev.ite (fun h' => Ev.done ?_) (fun h' => Ev.done ?_)))
 ·rw [if_neg h,if_pos h']
 ·rw [if_neg h,if_neg h']
theorem impl_reader_done_eq (s:ByteArray) (a:Int) (bad:Bool):impl_reader_done.f s a bad = some (!bad && (a == (s.size:Int)),s,a,bad):=by
 unfold impl_reader_done.f
 cases bad <;> simp
theorem spec_l05Key_eq (s:ByteArray):spec_l05Key.f s = some (inR s.size 1 10):=by
 unfold spec_l05Key.f;rw [spec_l01In_eq];rfl
theorem impl_keyOk_eq (s:ByteArray):impl_keyOk.f s = some (inR s.size 1 10):=by
 unfold impl_keyOk.f;rw [impl_within_eq];rfl
def spotOk (x:S145):Bool:=inR x.f0.size 1 10 && (inR x.f1 0 999 && (inR x.f2 0 20000 && inR x.f3 0 40))
def keyRise:Option ByteArray→ByteArray→Bool
 | none,_ => true
 | some q,s => Op.bytesLess q.toList s.toList
def dirIn:Option ByteArray→List S145→Bool
 | _,[] => true
 | p,x::t => spotOk x && (keyRise p x.f0 && dirIn (some x.f0) t)
def dirOk (l:List S145):Bool:=decide (l.length≤60) && dirIn none l
def keyOf (xs:List S145):Nat→Option ByteArray
 | 0 => none
 | n + 1 => some (rd_T145 xs (n:Int)).f0
theorem dirIn_mem:∀ {l:List S145} {p:Option ByteArray},dirIn p l = true→∀ x∈l,spotOk x = true
 | [],_,_,x,hx => by cases hx
 | y::t,p,h,x,hx => by
  rw [dirIn,Bool.and_eq_true,Bool.and_eq_true] at h
  rcases List.mem_cons.1 hx with rfl | hx
  ·exact h.1
  ·exact dirIn_mem h.2.2 x hx
theorem spec_DirOk_loop (l:List S145) (hl:l.length≤3000000):∀ (rest:List S145) (n:Nat),l.drop n = rest→Ev (fun k => spec_DirOk.l0 k l (n:Int)) (dirIn (keyOf l n) rest):=by
 intro rest
 induction rest with
 | nil =>
  intro n h
  have:=drop_nil h
  refine Ev.step (fun _ => rfl) ?_
  simp only [spec_DirOk.l0]
  exact Ev.neg (by omega) (Ev.done (by simp [dirIn]))
 | cons x t ih =>
  intro n h
  obtain ⟨h1,-,h3⟩:=drop_cons h
  have hk:keyOf l (n + 1) = some x.f0:=by rw [keyOf,rdT145_drop h]
  have ih:=ih (n + 1) h3
  rw [hk] at ih
  have tail:∀ r,r = (inR x.f1 0 999 && (inR x.f2 0 20000 && (inR x.f3 0 40 && dirIn (some x.f0) t)))→Ev (fun k => (spec_l01In.f x.f1 0 999).bind fun t1 => (if t1 = true then ((spec_l01In.f x.f2 0 20000).bind fun t2 => (if t2 = true then ((spec_l01In.f x.f3 0 40).bind fun t3 => (if t3 = true then (spec_DirOk.l0 k l ((n + 1:Nat):Int)) else (some false))) else (some false))) else (some false))) r:=by
   rintro r rfl
   refine Ev.call (spec_l01In_eq _ _ _) ?_
   cases inR x.f1 0 999
   ·exact Ev.neg (by simp) (Ev.done (by simp))
   refine Ev.pos rfl (Ev.call (spec_l01In_eq _ _ _) ?_)
   cases inR x.f2 0 20000
   ·exact Ev.neg (by simp) (Ev.done (by simp))
   refine Ev.pos rfl (Ev.call (spec_l01In_eq _ _ _) ?_)
   cases inR x.f3 0 40
   ·exact Ev.neg (by simp) (Ev.done (by simp))
   exact Ev.pos rfl (Ev.eq ih (by simp))
  refine Ev.step (fun _ => rfl) ?_
  simp only [spec_DirOk.l0,rdT145_drop h,wrap64_succ (show n≤9223372036854775806 by omega)]
  refine Ev.pos (by omega) (Ev.pos (by omega) (Ev.call (spec_l05Key_eq _) ?_))
  rw [dirIn,spotOk]
  cases h0:inR x.f0.size 1 10
  ·exact Ev.neg (by simp) (Ev.done (by simp))
  refine Ev.pos rfl ?_
  cases n with
  | zero => exact Ev.neg (by omega) (tail _ (by simp [keyOf,keyRise,Bool.and_assoc]))
  | succ m =>
   simp only [wrap64_pred (show m≤9223372036854775806 by omega)]
   refine Ev.pos (by omega) (Ev.pos (by omega) (Ev.pos (by omega) (Ev.ite (fun hc => tail _ ?_) (fun hc => Ev.done ?_))))
   ·simp only [keyOf,keyRise,hc];simp [Bool.and_assoc]
   ·simp only [keyOf,keyRise,Bool.eq_false_iff.2 hc];simp
theorem spec_DirOk_ev (l:List S145) (hl:l.length≤3000000):Ev (fun k => spec_DirOk.f k l) (dirOk l):=by
 unfold spec_DirOk.f dirOk
 refine Ev.ite (fun hc => Ev.done ?_) (fun hc => Ev.eq (spec_DirOk_loop l hl l 0 rfl) ?_)
 ·rw [decide_eq_false (show ¬ l.length≤60 by omega)];rfl
 ·rw [decide_eq_true (show l.length≤60 by omega)];rfl
theorem impl_DirOk_loop (l:List S145) (hl:l.length≤3000000):∀ (rest:List S145) (n:Nat),l.drop n = rest→Ev (fun k => impl_DirOk.l0 k l l (l.length:Int) (n:Int)) (decide (l.length≤60) && dirIn (keyOf l n) rest):=by
 intro rest
 induction rest with
 | nil =>
  intro n h
  have:=drop_nil h
  refine Ev.step (fun _ => rfl) ?_
  simp only [impl_DirOk.l0]
  refine Ev.neg (by omega) (Ev.done ?_)
  rw [dirIn,Bool.and_true]
  exact decide_eq_decide.2 (by omega)
 | cons x t ih =>
  intro n h
  obtain ⟨h1,-,h3⟩:=drop_cons h
  have hk:keyOf l (n + 1) = some x.f0:=by rw [keyOf,rdT145_drop h]
  have ih:=ih (n + 1) h3
  rw [hk] at ih
  refine Ev.step (fun _ => rfl) ?_
  simp only [impl_DirOk.l0,rdT145_drop h,wrap64_succ (show n≤9223372036854775806 by omega)]
  refine Ev.pos (by omega) (Ev.pos (by omega) (Ev.pos (by omega) (Ev.call (impl_keyOk_eq _) ?_)))
  rw [dirIn,spotOk]
  cases h0:inR x.f0.size 1 10
  ·exact Ev.neg (by simp) (Ev.done (by simp))
  refine Ev.pos rfl (Ev.call (impl_within_eq _ _ _) ?_)
  cases inR x.f1 0 999
  ·exact Ev.neg (by simp) (Ev.done (by simp))
  refine Ev.pos rfl (Ev.call (impl_within_eq _ _ _) ?_)
  cases inR x.f2 0 20000
  ·exact Ev.neg (by simp) (Ev.done (by simp))
  refine Ev.pos rfl (Ev.call (impl_within_eq _ _ _) ?_)
  cases inR x.f3 0 40
  ·exact Ev.neg (by simp) (Ev.done (by simp))
  refine Ev.pos rfl ?_
  cases n with
  | zero => exact Ev.neg (by omega) (Ev.eq ih (by simp [keyOf,keyRise]))
  | succ m =>
   simp only [wrap64_pred (show m≤9223372036854775806 by omega)]
   refine Ev.pos (by omega) (Ev.pos (by omega) (Ev.pos (by omega) (Ev.ite (fun hc => Ev.eq ih ?_) (fun hc => Ev.done ?_))))
   ·simp only [keyOf,keyRise,hc];simp
   ·simp only [keyOf,keyRise,Bool.eq_false_iff.2 hc];simp
theorem impl_DirOk_ev (l:List S145) (hl:l.length≤3000000):Ev (fun k => impl_DirOk.f k l) (dirOk l) :=
 impl_DirOk_loop l hl l 0 rfl
def sealT (s:ByteArray):ByteArray×Bool:=if s.size > 20000 then (⟨#[]⟩,false) else (s++four (sumOf s),true)
theorem spec_Sealed_ev (s:ByteArray) (hs:s.size≤1152921504606846976):Ev (fun k => spec_Sealed.f k s) (sealT s):=by
 unfold spec_Sealed.f sealT
 have h4:=four_size (sumOf s)
 refine Ev.ite (fun hc => Ev.done ?_) (fun hc => Ev.bind (spec_SumOf_ev s (by omega)) (Ev.call (spec_l02Four_eq _) (Ev.pos (by omega) (Ev.done ?_))))
 ·rw [if_pos (show s.size > 20000 by omega)]
 ·rw [if_neg (show ¬ s.size > 20000 by omega)]
theorem impl_Sealed_ev (s:ByteArray) (hs:s.size≤1152921504606846976):Ev (fun k => impl_Sealed.f k s) (sealT s):=by
 unfold impl_Sealed.f sealT
 have h4:=four_size (sumOf s)
 refine Ev.ite (fun hc => Ev.done ?_) (fun hc => Ev.bind (impl_SumOf_ev s (by omega)) (Ev.call rfl ?_))
 ·rw [if_pos (show s.size > 20000 by omega)]
 ·rw [if_neg (show ¬ s.size > 20000 by omega)]
  rw [four] at h4
  exact Ev.pos (by omega) (Ev.done rfl)
def unfStep (s:ByteArray) (a:Int):Option (ByteArray×Int) :=
 if (readVar s a).2.2 = false then none else
 if (readVar s a).1 > (s.size:Int) - (readVar s a).2.1 - 4 then none else
 if (frame (s.extract ((readVar s a).2.1 + 4).toNat ((readVar s a).2.1 + 4 + (readVar s a).1).toNat)).2 = true∧(frame (s.extract ((readVar s a).2.1 + 4).toNat ((readVar s a).2.1 + 4 + (readVar s a).1).toNat)).1 = s.extract a.toNat ((readVar s a).2.1 + 4 + (readVar s a).1).toNat
 then some (s.extract ((readVar s a).2.1 + 4).toNat ((readVar s a).2.1 + 4 + (readVar s a).1).toNat,(readVar s a).2.1 + 4 + (readVar s a).1) else none
def unfr (s:ByteArray):Nat→List ByteArray→Int→List ByteArray×Int
 | 0,acc,a => (acc,a)
 | m + 1,acc,a => match unfStep s a with
  | none => (acc,a)
  | some (c,b) => unfr s m (acc++[c]) b
def unframe (s:ByteArray):List ByteArray×Int:=if s.size > 20000 then ([],0) else unfr s (s.size + 1) [] 0
theorem unfStep_some {s:ByteArray} {a b:Int} {c:ByteArray} (h:unfStep s a = some (c,b)):0≤a∧a < b∧b≤s.size∧c.size≤9000:=by
 unfold unfStep at h
 split at h
 ·cases h
 split at h
 ·cases h
 split at h
 ·rename_i h1 h2 h3
  simp only [Option.some.injEq,Prod.mk.injEq] at h
  obtain ⟨rfl,rfl⟩:=h
  have hr:readVar s a = ((readVar s a).1,(readVar s a).2.1,true):=by
   have:(readVar s a).2.2 = true:=by cases hb:(readVar s a).2.2 <;> simp_all
   rw [←this]
  obtain ⟨p1,p2,p3,p4,p5,p6,-,-⟩:=readVar_true hr
  refine ⟨p1,by omega,by omega,?_⟩
  have h4:=h3.1
  unfold frame at h4
  split at h4
  ·rename_i h5
   have:=inR_true.1 h5
   omega
  ·simp at h4
 ·cases h
theorem unfr_bounds (s:ByteArray):∀ (m:Nat) (acc:List ByteArray) (a:Int),0≤a→a≤s.size→(acc.length:Int)≤a→(∀ c∈acc,c.size≤9000) →
  (0≤(unfr s m acc a).2∧(unfr s m acc a).2≤s.size)∧((unfr s m acc a).1.length:Int)≤(unfr s m acc a).2∧∀ c∈(unfr s m acc a).1,c.size≤9000
 | 0,acc,a,h0,h1,h2,h3 => ⟨⟨h0,h1⟩,h2,h3⟩
 | m + 1,acc,a,h0,h1,h2,h3 => by
  rw [unfr]
  cases hs:unfStep s a with
  | none => exact ⟨⟨h0,h1⟩,h2,h3⟩
  | some x =>
   obtain ⟨c,b⟩:=x
   obtain ⟨p1,p2,p3,p4⟩:=unfStep_some hs
   refine unfr_bounds s m (acc++[c]) b (by omega) p3 (by simp only [List.length_append,List.length_singleton];omega) ?_
   intro d hd
   rcases List.mem_append.1 hd with hd | hd
   ·exact h3 d hd
   ·rw [List.mem_singleton] at hd;rw [hd];exact p4
theorem unframe_bounds (s:ByteArray):(unframe s).1.length≤20000∧∀ c∈(unframe s).1,c.size≤9000:=by
 unfold unframe
 split
 ·exact ⟨by simp,fun c hc => by cases hc⟩
 ·obtain ⟨h1,h2,h3⟩:=unfr_bounds s (s.size + 1) [] 0 (by omega) (by omega) (by simp) (fun c hc => by cases hc)
  exact ⟨by omega,h3⟩
theorem readVar_res {s:ByteArray} {a:Int} (h:(readVar s a).2.2 = true):readVar s a = ((readVar s a).1,(readVar s a).2.1,true):=by
 rw [←h]
theorem spec_Unframe_loop (s:ByteArray) (hs:s.size≤20000):∀ (m:Nat) (acc:List ByteArray) (a:Int),0≤a→a≤s.size→(acc.length:Int)≤a→(s.size:Int) - a < m→Ev (fun k => spec_Unframe.l0 k s acc a) (unfr s m acc a):=by
 intro m
 induction m with
 | zero => intro acc a h0 h1 h2 h3;omega
 | succ m ih =>
  intro acc a h0 h1 h2 h3
  refine Ev.step (fun _ => rfl) ?_
  simp only [spec_Unframe.l0]
  rw [unfr]
  refine Ev.ite (fun hc => Ev.bind (spec_ReadVar_ev s a (by omega)) ?_) (fun hc => Ev.done ?_)
  ·cases hb:(readVar s a).2.2
   ·have e:unfStep s a = none:=by rw [unfStep,if_pos hb]
    refine Ev.neg (by simp) (Ev.step (fun _ => rfl) ?_)
    simp only [spec_Unframe.j1,e]
    exact Ev.pos trivial (Ev.now _)
   ·obtain ⟨p1,p2,p3,p4,p5,p6,-,-⟩:=readVar_true (readVar_res hb)
    have es:wrap64 (wrap64 ((s.size:Int) - (readVar s a).2.1) - 4) = s.size - (readVar s a).2.1 - 4:=by
     rw [wrap64_id (n:=(s.size:Int) - (readVar s a).2.1) (by omega) (by omega),wrap64_id (by omega) (by omega)]
    have e4:wrap64 ((readVar s a).2.1 + 4) = (readVar s a).2.1 + 4:=wrap64_id (by omega) (by omega)
    have eb:wrap64 ((readVar s a).2.1 + 4 + (readVar s a).1) = (readVar s a).2.1 + 4 + (readVar s a).1:=wrap64_id (by omega) (by omega)
    refine Ev.pos rfl (Ev.step (fun _ => rfl) ?_)
    simp only [spec_Unframe.j1,es,e4,eb]
    by_cases h4:(readVar s a).1 > (s.size:Int) - (readVar s a).2.1 - 4
    ·have e:unfStep s a = none:=by rw [unfStep,if_neg (by simp [hb]),if_pos h4]
     rw [e]
     exact Ev.pos (decide_eq_true h4) (Ev.now _)
    ·refine Ev.neg (by simp;omega) (Ev.pos (by omega) (Ev.pos (by omega) (Ev.pos (by omega) (Ev.bind (spec_Frame_ev _ (by rw [ByteArray.size_extract];omega)) (Ev.ite (fun h5 => Ev.pos (by omega) (Ev.pos (by omega) (Ev.ite (fun h6 => Ev.pos (by omega) ?_) (fun h6 => ?_)))) (fun h5 => ?_))))))
     ·have e:unfStep s a = some (s.extract ((readVar s a).2.1 + 4).toNat ((readVar s a).2.1 + 4 + (readVar s a).1).toNat,(readVar s a).2.1 + 4 + (readVar s a).1):=by
       rw [unfStep,if_neg (by simp [hb]),if_neg h4,if_pos ⟨h5,toList_inj.1 h6⟩]
      rw [e]
      exact ih _ _ (by omega) (by omega) (by simp only [List.length_append,List.length_singleton];omega) (by omega)
     ·have e:unfStep s a = none:=by rw [unfStep,if_neg (by simp [hb]),if_neg h4,if_neg (fun e => h6 (toList_inj.2 e.2))]
      rw [e];exact Ev.now _
     ·have e:unfStep s a = none:=by rw [unfStep,if_neg (by simp [hb]),if_neg h4,if_neg (fun e => h5 e.1)]
      rw [e];exact Ev.now _
  ·have e:unfStep s a = none:=by
    have hf:(readVar s a).2.2 = false:=by
     cases hb:(readVar s a).2.2
     ·rfl
     ·have:=readVar_true (readVar_res hb);omega
    rw [unfStep,if_pos hf]
   rw [e]
theorem spec_Unframe_ev (s:ByteArray):Ev (fun k => spec_Unframe.f k s) (unframe s):=by
 unfold spec_Unframe.f unframe
 refine Ev.call rfl (Ev.ite (fun hc => Ev.done ?_) (fun hc => ?_))
 ·rw [if_pos (show s.size > 20000 by omega)]
 ·rw [if_neg (show ¬ s.size > 20000 by omega)]
  exact spec_Unframe_loop s (by omega) _ [] 0 (by omega) (by omega) (by simp) (by omega)
theorem impl_flag_eq (b:Bool):impl_flag.f b = some (flagT b):=by cases b <;> rfl
def unsealT (s:ByteArray):ByteArray×Bool:=if 4≤s.size∧s.size≤20004∧s.extract (s.size - 4) s.size = four (sumOf (s.extract 0 (s.size - 4))) then (s.extract 0 (s.size - 4),true) else (⟨#[]⟩,false)
theorem split4 {s:ByteArray} (h:4≤s.size):bytesOf s = bytesOf (s.extract 0 (s.size - 4))++bytesOf (s.extract (s.size - 4) s.size):=by
 rw [bytesOf_extract,bytesOf_dropTo,List.drop_zero,List.take_append_drop]
theorem unseal_seal {t s:ByteArray} (h:sealT t = (s,true)):unsealT s = (t,true):=by
 unfold sealT at h
 by_cases hc:t.size > 20000
 ·rw [if_pos hc] at h;simp at h
 ·rw [if_neg hc] at h
  simp only [Prod.mk.injEq,and_true] at h
  have h4:=four_size (sumOf t)
  have hs:s.size = t.size + 4:=by rw [←h,size_append,h4]
  have hb:bytesOf s = bytesOf t++bytesOf (four (sumOf t)):=by rw [←h,bytesOf_append]
  have hl:(bytesOf t).length = s.size - 4:=by rw [bytesOf_length];omega
  have e1:s.extract 0 (s.size - 4) = t:=bytesOf_inj (by rw [bytesOf_extract,List.drop_zero,hb,←hl,List.take_left])
  have e2:s.extract (s.size - 4) s.size = four (sumOf t):=bytesOf_inj (by rw [bytesOf_dropTo,hb,←hl,List.drop_left])
  unfold unsealT
  rw [e1,e2,if_pos ⟨by omega,by omega,rfl⟩]
theorem seal_unseal {t s:ByteArray} (h:unsealT s = (t,true)):sealT t = (s,true)∧t.size≤20000:=by
 unfold unsealT at h
 split at h
 ·rename_i hc
  simp only [Prod.mk.injEq,and_true] at h
  subst h
  have hz:(s.extract 0 (s.size - 4)).size = s.size - 4:=by have:=extract_size (s:=s) (a:=0) (b:=((s.size - 4:Nat):Int)) (by omega) (by omega) (by omega);simp only [Int.toNat_natCast] at this;have e:(0:Int).toNat = 0:=rfl;rw [e] at this;omega
  unfold sealT
  refine ⟨?_,by omega⟩
  rw [if_neg (by omega),←hc.2.2]
  congr 1
  exact bytesOf_inj (by rw [bytesOf_append,←split4 hc.1])
 ·simp at h
theorem spec_Unsealed_ev (s:ByteArray) (hs:s.size≤1048576):Ev (fun k => spec_Unsealed.f k s) (unsealT s):=by
 unfold spec_Unsealed.f unsealT
 rw [wrap64_id (by omega) (by omega)]
 refine Ev.ite (fun hc => Ev.done ?_) (fun hc => Ev.ite (fun hd => Ev.done ?_) (fun hd => Ev.pos (by omega) (Ev.pos (by omega) ?_)))
 ·rw [if_neg (by omega)]
 ·rw [if_neg (by omega)]
 have e:((s.size:Int) - 4).toNat = s.size - 4:=by omega
 rw [e]
 refine Ev.bind (spec_SumOf_ev _ (by have:=extract_size (s:=s) (a:=0) (b:=((s.size - 4:Nat):Int)) (by omega) (by omega) (by omega);simp only [Int.toNat_natCast] at this;have e:(0:Int).toNat = 0:=rfl;rw [e] at this;omega)) (Ev.call (spec_l02Four_eq _) (Ev.ite (fun h => Ev.done ?_) (fun h => Ev.done ?_)))
 ·rw [if_pos ⟨by omega,by omega,toList_inj.1 h⟩]
 ·rw [if_neg (fun h' => h (toList_inj.2 h'.2.2))]
theorem impl_Unsealed_ev (s:ByteArray) (hs:s.size≤1048576):Ev (fun k => impl_Unsealed.f k s) (unsealT s):=by
 unfold impl_Unsealed.f
 refine Ev.ite (fun hc => Ev.done ?_) (fun hc => ?_)
 ·unfold unsealT;rw [if_neg (by omega)]
 rw [wrap64_id (by omega) (by omega)]
 have e:((s.size:Int) - 4).toNat = s.size - 4:=by omega
 have hz:(s.extract 0 (s.size - 4)).size = s.size - 4:=by have:=extract_size (s:=s) (a:=0) (b:=((s.size - 4:Nat):Int)) (by omega) (by omega) (by omega);simp only [Int.toNat_natCast] at this;have e:(0:Int).toNat = 0:=rfl;rw [e] at this;omega
 rw [e]
 refine Ev.pos (by omega) (Ev.pos (by omega) (Ev.bind (impl_Sealed_ev _ (by omega)) (Ev.ite (fun h => Ev.ite (fun h' => Ev.done ?_) (fun h' => Ev.done ?_)) (fun h => Ev.done ?_))))
 ·exact (unseal_seal (show sealT (s.extract 0 (s.size - 4)) = (s,true) from Prod.ext (toList_inj.1 h') h)).symm
 ·cases hu:unsealT s with
  | mk t b =>
   cases b
   ·unfold unsealT at hu;split at hu
    ·simp at hu
    ·exact hu
   ·exfalso
    have hst:=(seal_unseal hu).1
    have e2:t = s.extract 0 (s.size - 4):=by unfold unsealT at hu;split at hu <;> simp_all
    rw [←e2,hst] at h'
    exact h' rfl
 ·cases hu:unsealT s with
  | mk t b =>
   cases b
   ·unfold unsealT at hu;split at hu
    ·simp at hu
    ·exact hu
   ·exfalso
    have hst:=(seal_unseal hu).1
    have e2:t = s.extract 0 (s.size - 4):=by unfold unsealT at hu;split at hu <;> simp_all
    rw [←e2,hst] at h
    exact h rfl
def keyUp:Option ByteArray→ByteArray→Bool
 | none,_ => true
 | some q,s => Op.bytesLess q.toList s.toList
def batchIn:Option ByteArray→List S162→Bool
 | _,[] => true
 | p,x::t => inR x.f0.size 1 10 && (keyUp p x.f0 && (decide (x.f1.size≤40) && ((!x.f2 || emp x.f1) && batchIn (some x.f0) t)))
def batchOk (st:Int) (l:List S162):Bool:=inR st 0 100000 && (decide (l.length≤60) && batchIn none l)
def keyOfC (xs:List S162):Nat→Option ByteArray
 | 0 => none
 | n + 1 => some (rd_T162 xs (n:Int)).f0
theorem batchIn_mem:∀ {l:List S162} {p:Option ByteArray},batchIn p l = true→∀ x∈l,(1≤x.f0.size∧x.f0.size≤10)∧x.f1.size≤40
 | [],_,_,x,hx => by cases hx
 | y::t,p,h,x,hx => by
  rw [batchIn] at h
  simp only [Bool.and_eq_true] at h
  rcases List.mem_cons.1 hx with rfl | hx
  ·have:=inR_true.1 h.1
   exact ⟨by omega,of_decide_eq_true h.2.2.1⟩
  ·exact batchIn_mem h.2.2.2.2 x hx
theorem batchOk_bounds {st:Int} {l:List S162} (h:batchOk st l = true):(0≤st∧st≤100000)∧l.length≤60∧∀ x∈l,(1≤x.f0.size∧x.f0.size≤10)∧x.f1.size≤40:=by
 unfold batchOk at h
 simp only [Bool.and_eq_true] at h
 exact ⟨inR_true.1 h.1,of_decide_eq_true h.2.1,batchIn_mem h.2.2⟩
theorem spec_BatchOk_loop (st:Int) (l:List S162) (hl:l.length≤1048576):∀ (rest:List S162) (n:Nat),l.drop n = rest→Ev (fun k => spec_BatchOk.l0 k (n:Int) st l) (batchIn (keyOfC l n) rest):=by
 intro rest
 induction rest with
 | nil =>
  intro n h
  have:=drop_nil h
  refine Ev.step (fun _ => rfl) ?_
  simp only [spec_BatchOk.l0]
  exact Ev.neg (by omega) (Ev.done (by simp [batchIn]))
 | cons x t ih =>
  intro n h
  obtain ⟨h1,-,h3⟩:=drop_cons h
  have hk:keyOfC l (n + 1) = some x.f0:=by rw [keyOfC,rdT162_drop h]
  have ih:=ih (n + 1) h3
  rw [hk] at ih
  have tail:∀ r,r = (decide (x.f1.size≤40) && ((!x.f2 || emp x.f1) && batchIn (some x.f0) t))→Ev (fun k => if ((x.f1).size:Int) > 40 then some false else (if x.f2 = true then (if x.f1.toList = ([]:List UInt8) then (spec_BatchOk.l0 k ((n + 1:Nat):Int) st l) else some false) else (spec_BatchOk.l0 k ((n + 1:Nat):Int) st l))) r:=by
   rintro r rfl
   refine Ev.ite (fun c => Ev.done (by rw [decide_eq_false (show ¬ x.f1.size≤40 by omega)];rfl)) (fun c => ?_)
   rw [decide_eq_true (show x.f1.size≤40 by omega),Bool.true_and]
   refine Ev.ite (fun c2 => Ev.ite (fun c3 => Ev.eq ih ?_) (fun c3 => Ev.done ?_)) (fun c2 => Ev.eq ih ?_)
   ·rw [c2,(emp_iff _).1 c3];simp
   ·rw [c2,show emp x.f1 = false by simpa using fun e => c3 ((emp_iff _).2 e)];simp
   ·rw [show x.f2 = false by simpa using c2];simp
  refine Ev.step (fun _ => rfl) ?_
  simp only [spec_BatchOk.l0,rdT162_drop h,wrap64_succ (show n≤9223372036854775806 by omega)]
  refine Ev.pos (by omega) (Ev.pos (by omega) (Ev.call (spec_l05Key_eq _) ?_))
  rw [batchIn]
  cases h0:inR x.f0.size 1 10
  ·exact Ev.neg (by simp) (Ev.done (by simp))
  refine Ev.pos rfl ?_
  cases n with
  | zero => exact Ev.neg (by omega) (tail _ (by simp [keyOfC,keyUp]))
  | succ m =>
   simp only [wrap64_pred (show m≤9223372036854775806 by omega)]
   refine Ev.pos (by omega) (Ev.pos (by omega) (Ev.pos (by omega) (Ev.ite (fun hc => tail _ ?_) (fun hc => Ev.done ?_))))
   ·simp only [keyOfC,keyUp,hc];simp
   ·simp only [keyOfC,keyUp,Bool.eq_false_iff.2 hc];simp
theorem spec_BatchOk_ev (st:Int) (l:List S162) (hl:l.length≤1048576):Ev (fun k => spec_BatchOk.f k st l) (batchOk st l):=by
 unfold spec_BatchOk.f batchOk
 refine Ev.call (spec_l01In_eq _ _ _) ?_
 cases inR st 0 100000
 ·refine Ev.neg (by simp) (Ev.step (fun _ => rfl) ?_)
  simp only [spec_BatchOk.j0]
  exact Ev.pos trivial (Ev.done (by simp))
 ·refine Ev.pos rfl (Ev.step (fun _ => rfl) ?_)
  simp only [spec_BatchOk.j0]
  refine Ev.ite (fun c => Ev.done ?_) (fun c => Ev.eq (spec_BatchOk_loop st l hl l 0 rfl) ?_)
  ·have:=of_decide_eq_true c
   rw [decide_eq_false (show ¬ l.length≤60 by omega)];rfl
  ·have:=of_decide_eq_false (by simpa using c:decide ((l.length:Int) > 60) = false)
   rw [decide_eq_true (show l.length≤60 by omega)];rfl
def batchRows:ByteArray→List S162→ByteArray
 | s,[] => s
 | s,x::t => batchRows (s++shortText x.f0++flagT x.f2++shortText x.f1) t
def batchText (st:Int) (l:List S162):ByteArray×Bool:=if batchOk st l = true then (batchRows (varText st.toNat++varText l.length) l,true) else (⟨#[]⟩,false)
theorem spec_BatchText_loop (st:Int) (l:List S162) (hl:l.length≤60) (hd:∀ x∈l,(1≤x.f0.size∧x.f0.size≤10)∧x.f1.size≤40):∀ (rest:List S162) (n:Nat) (acc:ByteArray),l.drop n = rest→acc.size + 100 * rest.length≤100000 →
  Ev (fun k => spec_BatchText.l0 k acc (n:Int) st l) (batchRows acc rest,true):=by
 intro rest
 induction rest with
 | nil =>
  intro n acc h ha
  have:=drop_nil h
  refine Ev.step (fun _ => rfl) ?_
  simp only [spec_BatchText.l0]
  rw [batchRows]
  exact Ev.neg (by omega) (Ev.now _)
 | cons x r ih =>
  intro n acc h ha
  obtain ⟨h1,-,h3⟩:=drop_cons h
  have hm:=hd x (List.mem_of_mem_drop (h ▸ List.mem_cons_self))
  have s0:=shortText_size (show x.f0.size≤34359738367 by omega)
  have s1:=shortText_size (show x.f1.size≤34359738367 by omega)
  have sf:=flagT_size x.f2
  rw [List.length_cons] at ha
  refine Ev.step (fun _ => rfl) ?_
  simp only [spec_BatchText.l0,rdT162_drop h,wrap64_succ (show n≤9223372036854775806 by omega)]
  rw [batchRows]
  have hn:=ih (n + 1) (acc++shortText x.f0++flagT x.f2++shortText x.f1) h3 (by simp only [size_append];omega)
  have z1:(⟨#[1]⟩:ByteArray).size = 1:=rfl
  have z0:(⟨#[0]⟩:ByteArray).size = 1:=rfl
  refine Ev.pos (by omega) (Ev.pos (by omega) (Ev.ite (fun hc => ?_) (fun hc => ?_)))
  ·rw [flagT,if_pos hc] at hn ⊢
   exact Ev.bind (spec_l05Short_ev x.f0 (by omega)) (Ev.pos (by omega) (Ev.pos (by simp only [size_append];omega) (Ev.bind (spec_l05Short_ev x.f1 (by omega)) (Ev.pos (by simp only [size_append];omega) hn))))
  ·rw [flagT,if_neg hc] at hn ⊢
   exact Ev.bind (spec_l05Short_ev x.f0 (by omega)) (Ev.pos (by omega) (Ev.pos (by simp only [size_append];omega) (Ev.bind (spec_l05Short_ev x.f1 (by omega)) (Ev.pos (by simp only [size_append];omega) hn))))
theorem spec_BatchText_ev (st:Int) (l:List S162) (hl:l.length≤1048576):Ev (fun k => spec_BatchText.f k st l) (batchText st l):=by
 unfold spec_BatchText.f batchText
 refine Ev.bind (spec_BatchOk_ev st l hl) (Ev.ite (fun hk => ?_) (fun hk => Ev.done (by rw [if_neg hk])))
 rw [if_pos hk]
 obtain ⟨b1,b2,b3⟩:=batchOk_bounds hk
 have s1:=varText_size (show st.toNat≤34359738367 by omega)
 have s2:=varText_size (show l.length≤34359738367 by omega)
 exact Ev.bind (spec_l01Var_ev st (by omega) (by omega)) (Ev.bind (spec_l01Var_nat _ (by omega)) (Ev.pos (by omega) (spec_BatchText_loop st l b2 b3 l 0 _ rfl (by simp only [size_append];omega))))
def changeBytes (x:S162):List Int:=sh x.f0++(flagL x.f2::sh x.f1)
theorem batchRows_bytes:∀ (l:List S162) (acc:ByteArray),bytesOf (batchRows acc l) = bytesOf acc++l.flatMap changeBytes
 | [],acc => by simp [batchRows]
 | x::t,acc => by
  rw [batchRows,batchRows_bytes t]
  simp only [bytesOf_append,bytesOf_shortText,bytesOf_flagT,List.flatMap_cons,changeBytes,List.append_assoc,List.cons_append,List.nil_append]
theorem batch_parts {st:Int} {l:List S162} {s:ByteArray} (h:batchText st l = (s,true)):batchOk st l = true∧bytesOf s = varL st.toNat++(varL l.length++l.flatMap changeBytes):=by
 unfold batchText at h
 by_cases hk:batchOk st l = true
 ·rw [if_pos hk] at h
  refine ⟨hk,?_⟩
  rw [←(Prod.mk.inj h).1,batchRows_bytes]
  simp only [bytesOf_append,bytesOf_varText,List.append_assoc]
 ·rw [if_neg hk] at h;simp at h
def BDec (x0:ByteArray) (r:Int×List S162×Bool):Prop:=r = (0,[],false)∨∃ st l,r = (st,l,true)∧batchText st l = (x0,true)
theorem spec_ReadBatch_fin (x0 s:ByteArray) (n i a:Int) (b:Bool) (st:Int) (acc:List S162) (hl:acc.length≤1048576):To (fun k => spec_ReadBatch.j1 k x0 n i false s a b st acc) (BDec x0):=by
 refine To.step (fun _ => rfl) ?_
 simp only [spec_ReadBatch.j1]
 refine To.neg (by simp) (To.bind (To.ev (P:=fun r => r = batchText st acc) (spec_BatchText_ev st acc hl) rfl) (fun r e => ?_))
 refine To.ite (fun _ => To.now (Or.inl rfl)) (fun _ => To.ite (fun q1 => To.ite (fun q2 => To.now (Or.inr ⟨_,_,rfl,?_⟩)) (fun _ => To.now (Or.inl rfl))) (fun _ => To.now (Or.inl rfl)))
 rw [←e]
 exact Prod.ext (toList_inj.1 q2) q1
theorem spec_ReadBatch_loop (x0 s:ByteArray) (hs:s.size≤1048575) (N st:Int) (hN:N≤1000000000):∀ (m:Nat) (i a:Int) (b:Bool) (acc:List S162),0≤i→0≤a→a≤s.size→(acc.length:Int)≤a + (if b = true then 1 else 0)→(s.size:Int) - a + (if b = true then 0 else 1)≤m→acc.length≤1048576 →
  To (fun k => spec_ReadBatch.l0 k x0 N i s a b st acc) (BDec x0):=by
 intro m
 induction m with
 | zero =>
  intro i a b acc hi h0 h1 h2 h3 h4
  obtain rfl:b = true:=by cases b <;> simp_all;omega
  refine To.step (fun _ => rfl) ?_
  simp only [spec_ReadBatch.l0]
  exact To.ite (fun _ => spec_ReadBatch_fin x0 s N i a true st acc h4) (fun _ => spec_ReadBatch_fin x0 s N i a true st acc h4)
 | succ m ih =>
  intro i a b acc hi h0 h1 h2 h3 h4
  refine To.step (fun _ => rfl) ?_
  simp only [spec_ReadBatch.l0]
  cases b with
  | true => exact To.ite (fun _ => spec_ReadBatch_fin x0 s N i a true st acc h4) (fun _ => spec_ReadBatch_fin x0 s N i a true st acc h4)
  | false =>
   simp only [Bool.false_eq_true,if_false] at h2 h3
   refine To.ite (fun c => ?_) (fun _ => spec_ReadBatch_fin x0 s N i a false st acc h4)
   refine To.step (fun _ => rfl) ?_
   simp only [spec_ReadBatch.j1,Bool.not_false]
   have p1:=curShort_place (s:=s) (a:=a) (bad:=false) h0 h1
   refine To.pos trivial (To.bind (To.ev (P:=fun r => r = curShort s a false) (spec_l05ReadShort_ev s a false (by omega) h0 h1) rfl) (fun r1 e1 => ?_))
   have t1:r1.2.1 = s:=by rw [e1];exact curShort_text _ _ _
   rw [←e1] at p1
   rw [t1]
   refine To.call (P:=fun r => r = curTake s r1.2.2.1 r1.2.2.2 1) ⟨_,spec_l05Take_eq s _ 1 _ (by omega) p1.1 p1.2 (by omega) (by omega),rfl⟩ (fun r2 e2 => ?_)
   have t2:r2.2.1 = s:=by rw [e2];exact curTake_text _ _ _ _
   have p2:0≤r2.2.2.1∧r2.2.2.1≤s.size:=by rw [e2];exact curTake_place p1.1 p1.2 (by omega)
   rw [t2]
   refine To.bind (To.ev (P:=fun r => r = curShort s r2.2.2.1 r2.2.2.2) (spec_l05ReadShort_ev s _ _ (by omega) p2.1 p2.2) rfl) (fun r3 e3 => ?_)
   have t3:r3.2.1 = s:=by rw [e3];exact curShort_text _ _ _
   have p3:0≤r3.2.2.1∧r3.2.2.1≤s.size:=by rw [e3];exact curShort_place p2.1 p2.2
   rw [t3]
   refine To.pos (by omega) ?_
   rw [wrap64_id (by omega) (by omega)]
   cases hb:r3.2.2.2 with
   | true =>
    refine To.step (fun _ => rfl) ?_
    simp only [spec_ReadBatch.l0]
    exact To.ite (fun _ => spec_ReadBatch_fin x0 s N _ _ true st _ (by simp;omega)) (fun _ => spec_ReadBatch_fin x0 s N _ _ true st _ (by simp;omega))
   | false =>
    rw [e3] at hb
    obtain ⟨hb2,m3⟩:=curShort_good' p2.1 p2.2 hb
    rw [←e3] at m3
    rw [e2] at hb2
    obtain ⟨hb1,m2,-⟩:=curTake_good' p1.1 (by omega) hb2
    rw [←e2] at m2
    rw [e1] at hb1
    obtain ⟨-,m1⟩:=curShort_good' h0 h1 hb1
    rw [←e1] at m1
    have l1:=m1.le;have l2:=m2.le;have l3:=m3.le
    have v1:=varL_pos r1.1.size
    rw [sh,List.length_append] at l1
    exact ih _ _ false _ (by omega) p3.1 p3.2 (by simp;omega) (by simp;omega) (by simp;omega)
theorem spec_ReadBatch_to (s:ByteArray) (hs:s.size≤1048575):To (fun k => spec_ReadBatch.f k s) (BDec s):=by
 unfold spec_ReadBatch.f
 refine To.bind (To.ev (P:=fun r => r = curNum s 0 false) (spec_l05Var_ev s 0 false (by omega)) rfl) (fun r1 e1 => ?_)
 have p1:r1.2.1 = s∧0≤r1.2.2.1∧r1.2.2.1≤s.size:=by rw [e1];exact ⟨curNum_text _ _ _,curNum_place (by omega) (by omega)⟩
 rw [p1.1]
 refine To.bind (To.ev (P:=fun r => r = curNum s r1.2.2.1 r1.2.2.2) (spec_l05Var_ev s _ _ (by omega)) rfl) (fun r2 e2 => ?_)
 have p2:r2.2.1 = s∧0≤r2.2.2.1∧r2.2.2.1≤s.size:=by rw [e2];exact ⟨curNum_text _ _ _,curNum_place p1.2.1 p1.2.2⟩
 rw [p2.1]
 have hn:r2.1≤1000000000:=by rw [e2];exact (curNum_nonneg _ _ _).2
 exact spec_ReadBatch_loop s s (by omega) r2.1 r1.1 hn (s.size + 1) 0 r2.2.2.1 r2.2.2.2 [] (by omega) p2.2.1 p2.2.2 (by simp;split <;> omega) (by split <;> omega) (by simp)
theorem spec_ReadBatch_fwd (x0 s:ByteArray) (hs:s.size≤1048576) (st:Int) (l:List S162) (hl:l.length≤60) (h:batchText st l = (x0,true)):∀ (rest:List S162) (n:Nat) (acc:List S162) (a:Int),acc++rest = l→acc.length = n→(∀ x∈rest,(1≤x.f0.size∧x.f0.size≤10)∧x.f1.size≤40)→At s a (rest.flatMap changeBytes) s.size →
  Ev (fun k => spec_ReadBatch.l0 k x0 (l.length:Int) (n:Int) s a false st acc) (st,l,true):=by
 intro rest
 induction rest with
 | nil =>
  intro n acc a h1 h2 h3 h4
  rw [List.append_nil] at h1
  subst h1
  refine Ev.step (fun _ => rfl) ?_
  simp only [spec_ReadBatch.l0]
  refine Ev.neg (by omega) (Ev.step (fun _ => rfl) ?_)
  simp only [spec_ReadBatch.j1]
  exact Ev.neg (by simp) (Ev.bind (Ev.eq (spec_BatchText_ev st acc (by omega)) h) (Ev.neg (by simp) (Ev.pos rfl (Ev.pos rfl (Ev.now _)))))
 | cons x t ih =>
  intro n acc a h1 h2 h3 h4
  have hlen:acc.length + (t.length + 1) = l.length:=by rw [←h1];simp
  obtain ⟨z0,z1⟩:=h3 x List.mem_cons_self
  rw [List.flatMap_cons,changeBytes,List.append_assoc] at h4
  obtain ⟨q1,h4⟩:=h4.split
  obtain ⟨q2,h4⟩:=at_cons h4
  obtain ⟨q3,h4⟩:=At.split (P:=sh x.f1) h4
  have l1:=q1.le;have l2:=q2.le;have l3:=q3.le
  refine Ev.step (fun _ => rfl) ?_
  simp only [spec_ReadBatch.l0]
  refine Ev.pos (by omega) (Ev.step (fun _ => rfl) ?_)
  simp only [spec_ReadBatch.j1,Bool.not_false,wrap64_succ (show n≤9223372036854775806 by omega)]
  refine Ev.pos trivial (Ev.bind (Ev.eq (spec_l05ReadShort_ev s a false (by omega) (by omega) (by omega)) (curShort_fwd q1 (by omega))) (Ev.call ((spec_l05Take_eq s (a + ((sh x.f0).length:Int)) 1 false (by omega) (by omega) (by omega) (by omega) (by omega)).trans (congrArg some (take_flag q2))) (Ev.bind (Ev.eq (spec_l05ReadShort_ev s (a + ((sh x.f0).length:Int) + 1) false (by omega) (by omega) (by omega)) (curShort_fwd q3 (by omega))) (Ev.pos (by omega) ?_))))
  simp only [(flag_at x.f2).2.2.1]
  exact ih (n + 1) _ _ (by rw [←h1,List.append_assoc];rfl) (by simp [h2]) (fun y hy => h3 y (List.mem_cons_of_mem _ hy)) h4
theorem spec_ReadBatch_good (s:ByteArray) (hs:s.size≤1048576) (st:Int) (l:List S162) (h:batchText st l = (s,true)):Ev (fun k => spec_ReadBatch.f k s) (st,l,true):=by
 obtain ⟨hk,hb⟩:=batch_parts h
 obtain ⟨b1,b2,b3⟩:=batchOk_bounds hk
 have hw:=At.whole s
 rw [hb] at hw
 obtain ⟨q1,hw⟩:=hw.split
 obtain ⟨q2,hw⟩:=hw.split
 unfold spec_ReadBatch.f
 refine Ev.bind (Ev.eq (spec_l05Var_ev s 0 false (by omega)) (curNum_fwd q1 (by omega))) (Ev.bind (Ev.eq (spec_l05Var_ev s _ false (by omega)) (curNum_fwd q2 (by omega))) ?_)
 simp only [Int.toNat_of_nonneg b1.1]
 exact spec_ReadBatch_fwd s s hs st l b2 h l 0 [] _ rfl rfl b3 hw
theorem impl_BatchOk_loop (st:Int) (l:List S162) (hl:l.length≤1048576):∀ (rest:List S162) (n:Nat),l.drop n = rest→Ev (fun k => impl_BatchOk.l0 k l (l.length:Int) (n:Int) st l) (batchIn (keyOfC l n) rest && (inR st 0 100000 && decide (l.length≤60))):=by
 intro rest
 induction rest with
 | nil =>
  intro n h
  have:=drop_nil h
  refine Ev.step (fun _ => rfl) ?_
  simp only [impl_BatchOk.l0]
  refine Ev.neg (by omega) (Ev.call (impl_within_eq _ _ _) ?_)
  rw [batchIn,Bool.true_and]
  cases inR st 0 100000
  ·exact Ev.neg (by simp) (Ev.done (by simp))
  ·exact Ev.pos rfl (Ev.done (by rw [Bool.true_and];exact decide_eq_decide.2 (by omega)))
 | cons x t ih =>
  intro n h
  obtain ⟨h1,-,h3⟩:=drop_cons h
  have hk:keyOfC l (n + 1) = some x.f0:=by rw [keyOfC,rdT162_drop h]
  have ih:=ih (n + 1) h3
  rw [hk] at ih
  have prev:∀ r,r = (keyUp (keyOfC l n) x.f0 && (batchIn (some x.f0) t && (inR st 0 100000 && decide (l.length≤60))))→Ev (fun k => if (n:Int) > 0 then (if 0≤(wrap64 ((n:Int) - 1)) then (if (wrap64 ((n:Int) - 1)) < (l.length:Int) then (if ((Op.bytesLess (((rd_T162 l (wrap64 ((n:Int) - 1))).f0).toList) (x.f0.toList)) = true) then (impl_BatchOk.l0 k l (l.length:Int) ((n + 1:Nat):Int) st l) else some false) else none) else none) else (impl_BatchOk.l0 k l (l.length:Int) ((n + 1:Nat):Int) st l)) r:=by
   rintro r rfl
   cases n with
   | zero => exact Ev.neg (by omega) (Ev.eq ih (by simp [keyOfC,keyUp]))
   | succ m =>
    simp only [wrap64_pred (show m≤9223372036854775806 by omega)]
    refine Ev.pos (by omega) (Ev.pos (by omega) (Ev.pos (by omega) (Ev.ite (fun hc => Ev.eq ih ?_) (fun hc => Ev.done ?_))))
    ·simp only [keyOfC,keyUp,hc];simp
    ·simp only [keyOfC,keyUp,Bool.eq_false_iff.2 hc];simp
  refine Ev.step (fun _ => rfl) ?_
  simp only [impl_BatchOk.l0,rdT162_drop h,wrap64_succ (show n≤9223372036854775806 by omega)]
  refine Ev.pos (by omega) (Ev.pos (by omega) (Ev.pos (by omega) (Ev.call (impl_keyOk_eq _) ?_)))
  rw [batchIn]
  cases h0:inR x.f0.size 1 10
  ·exact Ev.neg (by simp) (Ev.done (by simp))
  refine Ev.pos rfl (Ev.ite (fun c => Ev.done (by rw [decide_eq_false (show ¬ x.f1.size≤40 by omega)];simp)) (fun c => ?_))
  rw [decide_eq_true (show x.f1.size≤40 by omega)]
  refine Ev.ite (fun c2 => Ev.ite (fun c3 => prev _ ?_) (fun c3 => Ev.done ?_)) (fun c2 => prev _ ?_)
  ·rw [c2,(emp_iff _).1 c3];simp [Bool.and_assoc]
  ·rw [c2,show emp x.f1 = false by simpa using fun e => c3 ((emp_iff _).2 e)];simp
  ·rw [show x.f2 = false by simpa using c2];simp [Bool.and_assoc]
theorem impl_BatchOk_ev (st:Int) (l:List S162) (hl:l.length≤1048576):Ev (fun k => impl_BatchOk.f k st l) (batchOk st l):=by
 refine Ev.eq (impl_BatchOk_loop st l hl l 0 rfl) ?_
 unfold batchOk
 show (batchIn none l && _) = _
 cases inR st 0 100000 <;> cases decide (l.length≤60) <;> simp
theorem impl_BatchText_loop (l:List S162) (hl:l.length≤60) (hd:∀ x∈l,(1≤x.f0.size∧x.f0.size≤10)∧x.f1.size≤40):∀ (rest:List S162) (n:Nat) (acc:ByteArray),l.drop n = rest→acc.size + 100 * rest.length≤100000 →
  Ev (fun k => impl_BatchText.l0 k acc l (l.length:Int) (n:Int)) (batchRows acc rest,true):=by
 intro rest
 induction rest with
 | nil =>
  intro n acc h ha
  have:=drop_nil h
  refine Ev.step (fun _ => rfl) ?_
  simp only [impl_BatchText.l0]
  rw [batchRows]
  exact Ev.neg (by omega) (Ev.now _)
 | cons x r ih =>
  intro n acc h ha
  obtain ⟨h1,-,h3⟩:=drop_cons h
  have hm:=hd x (List.mem_of_mem_drop (h ▸ List.mem_cons_self))
  have s0:=shortText_size (show x.f0.size≤34359738367 by omega)
  have s1:=shortText_size (show x.f1.size≤34359738367 by omega)
  have sf:=flagT_size x.f2
  rw [List.length_cons] at ha
  refine Ev.step (fun _ => rfl) ?_
  simp only [impl_BatchText.l0,rdT162_drop h,wrap64_succ (show n≤9223372036854775806 by omega)]
  rw [batchRows]
  have hn:=ih (n + 1) (acc++((shortText x.f0++flagT x.f2)++shortText x.f1)) h3 (by simp only [size_append];omega)
  rw [show acc++shortText x.f0++flagT x.f2++shortText x.f1 = acc++((shortText x.f0++flagT x.f2)++shortText x.f1) by simp only [ByteArray.append_assoc]]
  exact Ev.pos (by omega) (Ev.pos (by omega) (Ev.pos (by omega) (Ev.bind (impl_short_ev x.f0 (by omega)) (Ev.call (impl_flag_eq x.f2) (Ev.pos (by omega) (Ev.bind (impl_short_ev x.f1 (by omega)) (Ev.pos (by simp only [size_append];omega) (Ev.pos (by simp only [size_append];omega) hn))))))))
theorem impl_vars2 (st:Int) (n:Nat) (h:0≤st∧st≤100000) (hn:n≤60):Ev (fun k => impl_vars.f k [st,(n:Int)]) (varText st.toNat++varText n,true):=by
 refine Ev.eq (impl_vars_ev _ (by simp)) ?_
 rw [varsOf,if_pos (by simp [inR_true];omega)]
 simp [varText,strOfNums_append]
theorem impl_BatchText_ev (st:Int) (l:List S162) (hl:l.length≤1048576):Ev (fun k => impl_BatchText.f k st l) (batchText st l):=by
 unfold impl_BatchText.f batchText
 refine Ev.bind (impl_BatchOk_ev st l hl) (Ev.ite (fun hk => ?_) (fun hk => Ev.done (by rw [if_neg hk])))
 rw [if_pos hk]
 obtain ⟨b1,b2,b3⟩:=batchOk_bounds hk
 have s1:=varText_size (show st.toNat≤34359738367 by omega)
 have s2:=varText_size (show l.length≤34359738367 by omega)
 exact Ev.bind (impl_vars2 st l.length b1 b2) (impl_BatchText_loop l b2 b3 l 0 _ rfl (by simp only [size_append];omega))
theorem impl_ReadBatch_step (s:ByteArray) (hs:s.size≤1048576) (a:Int) (h0:0≤a) (h1:a≤s.size) (st:Int) (acc:List S162) (hl:acc.length≤1048577):To (fun k => impl_ReadBatch_c1.f k s a false st acc) (fun r => r.1 = st∧r.2.2.1 = s∧(0≤r.2.2.2.1∧r.2.2.2.1≤s.size)∧(∃ x:S162,r.2.1 = acc++[x])∧(r.2.2.2.2 = false→a < r.2.2.2.1)):=by
 unfold impl_ReadBatch_c1.f
 refine To.bind (To.ev (P:=fun r => r = curText s a false) (impl_reader_text_ev s a false (by omega)) rfl) (fun r1 e1 => ?_)
 have p1:r1.2.1 = s∧0≤r1.2.2.1∧r1.2.2.1≤s.size:=by rw [e1];exact ⟨curText_text _ _ _,curText_place h0 h1⟩
 rw [p1.1]
 refine To.call (P:=fun r => r = curByte s r1.2.2.1 r1.2.2.2) ⟨_,impl_reader_byte_eq s _ _ (by omega) p1.2.1 p1.2.2,rfl⟩ (fun r2 e2 => ?_)
 have p2:r2.2.1 = s∧0≤r2.2.2.1∧r2.2.2.1≤s.size:=by rw [e2];exact ⟨curByte_text _ _ _,curByte_place p1.2.1 p1.2.2⟩
 rw [p2.1]
 refine To.bind (To.ev (P:=fun r => r = curText s r2.2.2.1 r2.2.2.2) (impl_reader_text_ev s _ _ (by omega)) rfl) (fun r3 e3 => ?_)
 have p3:r3.2.1 = s∧0≤r3.2.2.1∧r3.2.2.1≤s.size:=by rw [e3];exact ⟨curText_text _ _ _,curText_place p2.2.1 p2.2.2⟩
 refine To.pos (by omega) (To.now ⟨rfl,p3.1,p3.2,⟨_,rfl⟩,fun hb => ?_⟩)
 dsimp only at hb ⊢
 rw [e3] at hb
 obtain ⟨hb2,m3,-⟩:=curText_good' hb
 rw [←e3] at m3
 rw [e2] at hb2
 obtain ⟨hb1,m2,-⟩:=curByte_good' p1.2.1 hb2
 rw [←e2] at m2
 have l2:=m2.le;have l3:=m3.le
 simp only [List.length_singleton] at l2
 rw [e1] at hb1
 obtain ⟨-,m1,-⟩:=curText_good' hb1
 rw [←e1] at m1
 have l1:=m1.le
 omega
theorem impl_ReadBatch_loop (s:ByteArray) (hs:s.size≤1048576) (N st:Int):∀ (m:Nat) (i a:Int) (b:Bool) (acc:List S162),0≤a→a≤s.size→(acc.length:Int)≤a + (if b = true then 1 else 0)→(s.size:Int) - a + (if b = true then 0 else 1)≤m →
  To (fun k => each_ReadBatch_c1.l0 k N i s a b st acc) (fun r => r.1 = s∧r.2.2.2.1 = st∧r.2.2.2.2.length≤s.size + 1):=by
 intro m
 induction m with
 | zero =>
  intro i a b acc h0 h1 h2 h3
  obtain rfl:b = true:=by cases b <;> simp_all;omega
  simp only [if_true] at h2
  refine To.step (fun _ => rfl) ?_
  simp only [each_ReadBatch_c1.l0]
  exact To.ite (fun _ => To.pos (by simp) (To.now ⟨rfl,rfl,by dsimp only;omega⟩)) (fun _ => To.now ⟨rfl,rfl,by dsimp only;omega⟩)
 | succ m ih =>
  intro i a b acc h0 h1 h2 h3
  refine To.step (fun _ => rfl) ?_
  simp only [each_ReadBatch_c1.l0]
  cases b with
  | true =>
   simp only [if_true] at h2
   exact To.ite (fun _ => To.pos (by simp) (To.now ⟨rfl,rfl,by dsimp only;omega⟩)) (fun _ => To.now ⟨rfl,rfl,by dsimp only;omega⟩)
  | false =>
   simp only [Bool.false_eq_true,if_false] at h2 h3
   refine To.ite (fun c => To.neg (by simp) (To.bind (impl_ReadBatch_step s (by omega) a h0 h1 st acc (by omega)) (fun r p => ?_))) (fun c => To.now ⟨rfl,rfl,by dsimp only;omega⟩)
   obtain ⟨st',out',s',a',b'⟩:=r
   obtain ⟨p0,p1,p2,⟨x,p3⟩,p5⟩:=p
   dsimp only at p0 p1 p2 p3 p5 ⊢
   subst p0
   subst p1
   subst p3
   cases b' with
   | true =>
    refine To.step (fun _ => rfl) ?_
    simp only [each_ReadBatch_c1.l0]
    exact To.ite (fun _ => To.pos (by simp) (To.now ⟨rfl,rfl,by simp;omega⟩)) (fun _ => To.now ⟨rfl,rfl,by simp;omega⟩)
   | false =>
    have:=p5 rfl
    exact ih _ a' false (acc++[x]) p2.1 p2.2 (by simp;omega) (by simp;omega)
theorem impl_ReadBatch_to (s:ByteArray) (hs:s.size≤1048575):To (fun k => impl_ReadBatch.f k s) (BDec s):=by
 unfold impl_ReadBatch.f
 refine To.bind (To.ev (P:=fun r => r = curNum s 0 false) (impl_reader_num_ev s 0 false (by omega)) rfl) (fun r1 e1 => ?_)
 have p1:r1.2.1 = s∧0≤r1.2.2.1∧r1.2.2.1≤s.size:=by rw [e1];exact ⟨curNum_text _ _ _,curNum_place (by omega) (by omega)⟩
 rw [p1.1]
 refine To.bind (P:=fun (r:ByteArray×Int×Bool×Int×List S162) => r.1 = s∧r.2.2.2.1 = r1.1∧r.2.2.2.2.length≤s.size + 1) ?_ (fun r p => ?_)
 ·unfold each_ReadBatch_c1.f
  refine To.bind (To.ev (P:=fun r => r = curNum s r1.2.2.1 r1.2.2.2) (impl_reader_num_ev s _ _ (by omega)) rfl) (fun r2 e2 => ?_)
  have p2:r2.2.1 = s∧0≤r2.2.2.1∧r2.2.2.1≤s.size:=by rw [e2];exact ⟨curNum_text _ _ _,curNum_place p1.2.1 p1.2.2⟩
  rw [p2.1]
  exact impl_ReadBatch_loop s (by omega) r2.1 r1.1 (s.size + 1) 0 r2.2.2.1 r2.2.2.2 [] p2.2.1 p2.2.2 (by simp;split <;> omega) (by split <;> omega)
 ·refine To.bind (To.ev (P:=fun z => z = batchText r.2.2.2.1 r.2.2.2.2) (impl_BatchText_ev _ _ (by omega)) rfl) (fun z ez => ?_)
  refine To.ite (fun _ => To.now (Or.inl rfl)) (fun _ => To.ite (fun q1 => To.ite (fun q2 => To.now (Or.inr ⟨_,_,rfl,?_⟩)) (fun _ => To.now (Or.inl rfl))) (fun _ => To.now (Or.inl rfl)))
  rw [←ez]
  exact Prod.ext (toList_inj.1 q2) q1
theorem impl_ReadBatch_fwd (s:ByteArray) (hs:s.size≤1048576) (st:Int):∀ (rest:List S162) (i:Nat) (acc:List S162) (a b:Int),(∀ x∈rest,(1≤x.f0.size∧x.f0.size≤10)∧x.f1.size≤40)→i + rest.length≤60→acc.length = i→At s a (rest.flatMap changeBytes) b →
  Ev (fun k => each_ReadBatch_c1.l0 k ((i + rest.length:Nat):Int) (i:Int) s a false st acc) (s,b,false,st,acc++rest):=by
 intro rest
 induction rest with
 | nil =>
  intro i acc a b h1 h2 h3 h4
  refine Ev.step (fun _ => rfl) ?_
  simp only [each_ReadBatch_c1.l0]
  have:=h4.le
  refine Ev.neg (by simp) (Ev.done ?_)
  simp only [List.flatMap_nil,List.length_nil] at this
  rw [List.append_nil,show a = b by omega]
 | cons x t ih =>
  intro i acc a b h1 h2 h3 h4
  rw [List.length_cons] at h2
  obtain ⟨z0,z1⟩:=h1 x List.mem_cons_self
  rw [List.flatMap_cons,changeBytes,List.append_assoc] at h4
  obtain ⟨q1,h4⟩:=h4.split
  obtain ⟨q2,h4⟩:=at_cons h4
  obtain ⟨q3,h4⟩:=At.split (P:=sh x.f1) h4
  have l1:=q1.le;have l2:=q2.le;have l3:=q3.le
  refine Ev.step (fun _ => rfl) ?_
  simp only [each_ReadBatch_c1.l0,impl_ReadBatch_c1.f,wrap64_succ (show i≤9223372036854775806 by omega)]
  refine Ev.pos (by simp only [List.length_cons];omega) (Ev.neg (by simp) (Ev.bind (a:=(st,acc++[x],s,a + ((sh x.f0).length:Int) + 1 + ((sh x.f1).length:Int),false)) ?_ ?_))
  ·refine Ev.bind (Ev.eq (impl_reader_text_ev s a false (by omega)) (curText_fwd q1 (by omega))) (Ev.call ((impl_reader_byte_eq s (a + ((sh x.f0).length:Int)) false (by omega) (by omega) (by omega)).trans (congrArg some (curByte_fwd q2))) (Ev.bind (Ev.eq (impl_reader_text_ev s _ false (by omega)) (curText_fwd q3 (by omega))) (Ev.pos (by omega) (Ev.done ?_))))
   simp only [(flag_at x.f2).2.2.2]
  ·have:=ih (i + 1) (acc++[x]) _ b (fun y hy => h1 y (List.mem_cons_of_mem _ hy)) (by omega) (by simp [h3]) h4
   rw [show i + 1 + t.length = i + (x::t).length by simp;omega] at this
   exact Ev.eq this (by simp)
theorem impl_ReadBatch_good (s:ByteArray) (hs:s.size≤1048576) (st:Int) (l:List S162) (h:batchText st l = (s,true)):Ev (fun k => impl_ReadBatch.f k s) (st,l,true):=by
 obtain ⟨hk,hb⟩:=batch_parts h
 obtain ⟨b1,b2,b3⟩:=batchOk_bounds hk
 have hw:=At.whole s
 rw [hb] at hw
 obtain ⟨q1,hw⟩:=hw.split
 obtain ⟨q2,hw⟩:=hw.split
 unfold impl_ReadBatch.f each_ReadBatch_c1.f
 refine Ev.bind (Ev.eq (impl_reader_num_ev s 0 false (by omega)) (curNum_fwd q1 (by omega))) (Ev.bind (a:=(s,(s.size:Int),false,st,l)) ?_ ?_)
 ·refine Ev.bind (Ev.eq (impl_reader_num_ev s _ false (by omega)) (curNum_fwd q2 (by omega))) ?_
  have:=impl_ReadBatch_fwd s hs st l 0 [] _ _ b3 (by omega) rfl hw
  rw [Nat.zero_add] at this
  rw [Int.toNat_of_nonneg b1.1]
  exact this
 ·exact Ev.bind (Ev.eq (impl_BatchText_ev st l (by omega)) h) (Ev.neg (by simp) (Ev.pos rfl (Ev.pos rfl (Ev.now _))))
def RB (s:ByteArray) (r:Int×List S162×Bool):Prop:=Ev (fun k => spec_ReadBatch.f k s) r∧Ev (fun k => impl_ReadBatch.f k s) r∧(r.2.2 = true→batchOk r.1 r.2.1 = true)
theorem readBatch_both (s:ByteArray) (hs:s.size≤1048575):∃ r,RB s r:=by
 by_cases hex:∃ st l,batchText st l = (s,true)
 ·obtain ⟨st,l,h⟩:=hex
  exact ⟨(st,l,true),spec_ReadBatch_good s (by omega) st l h,impl_ReadBatch_good s (by omega) st l h,fun _ => (batch_parts h).1⟩
 ·obtain ⟨r,hr,p⟩:=spec_ReadBatch_to s hs
  obtain ⟨r',hr',p'⟩:=impl_ReadBatch_to s hs
  rcases p with rfl | ⟨st,l,-,h⟩
  ·rcases p' with rfl | ⟨st,l,-,h⟩
   ·exact ⟨_,hr,hr',fun h => by cases h⟩
   ·exact absurd ⟨st,l,h⟩ hex
  ·exact absurd ⟨st,l,h⟩ hex
def spotsAt (seg:Int):Int→List S162→List S145
 | _,[] => []
 | a,x::t => (if x.f2 = true then (⟨x.f0,seg,0,-1⟩:S145) else ⟨x.f0,seg,a + ((shortText x.f0).size:Int) + 1 + ((varText x.f1.size).size:Int),(x.f1.size:Int)⟩)::spotsAt seg (a + ((shortText x.f0).size:Int) + 1 + ((varText x.f1.size).size:Int) + (x.f1.size:Int)) t
theorem spotsAt_length (seg:Int):∀ (l:List S162) (a:Int),(spotsAt seg a l).length = l.length
 | [],_ => rfl
 | x::t,a => by rw [spotsAt,List.length_cons,List.length_cons,spotsAt_length seg t]
theorem short_sz (t:ByteArray):(shortText t).size = (varText t.size).size + t.size:=by rw [shortText,size_append]
theorem frame_le8 (s:ByteArray):(frame s).1.size≤9009:=by
 unfold frame
 split
 ·rename_i h
  have:=inR_true.1 h
  have hv:=varText_size (show s.size≤34359738367 by omega)
  have h4:=four_size (sumOf s)
  simp only [size_append];omega
 ·exact Nat.zero_le _
def scanOn (rb:ByteArray→Int×List S162×Bool) (seg:Int):Int→List ByteArray→List S145×List ByteArray×Int→List S145×List ByteArray×Int
 | _,[],r => r
 | a,c::t,r => if (rb c).2.2 = true then scanOn rb seg (a + ((frame c).1.size:Int)) t (r.1++spotsAt seg (a + ((frame c).1.size:Int) - (c.size:Int) + ((varText (rb c).1.toNat).size:Int) + ((varText (rb c).2.1.length).size:Int)) (rb c).2.1,r.2.1++[c],mx r.2.2 (rb c).1) else r
theorem spec_ScanSeg_inner (seg:Int) (tx:List ByteArray) (stamp:Int) (list:List ByteArray) (at_:Int) (i:Nat) (f:ByteArray) (st:Int) (l:List S162) (hl:l.length≤60) (hd:∀ x∈l,(1≤x.f0.size∧x.f0.size≤10)∧x.f1.size≤40) (hi:i < list.length) (htx:tx.length≤20000) (r:List S145×List ByteArray×Int):∀ (rest:List S162) (n:Nat) (a:Int) (sp:List S145),l.drop n = rest→sp.length + rest.length≤10000000→-1000000≤a→a + 1000 * (rest.length:Int)≤1000000000000 →
  Ev (fun k => spec_ScanSeg.l0 k seg (sp++spotsAt seg a rest) (tx++[rdOf ByteArray.empty list (i:Int)]) (mx stamp st) list (wrap64 (at_ + (f.size:Int))) (wrap64 ((i:Int) + 1))) r →
  Ev (fun k => spec_ScanSeg.l1 k seg sp tx stamp list at_ (i:Int) f a (n:Int) st l) r:=by
 intro rest
 induction rest with
 | nil =>
  intro n a sp h hs h0 h1 hk
  have:=drop_nil h
  rw [spotsAt,List.append_nil,mx] at hk
  refine Ev.step (fun _ => rfl) ?_
  simp only [spec_ScanSeg.l1]
  refine Ev.neg (by omega) (Ev.ite (fun c => Ev.pos (by omega) (Ev.pos (by omega) (Ev.pos (by omega) ?_))) (fun c => Ev.pos (by omega) (Ev.pos (by omega) (Ev.pos (by omega) ?_))))
  ·rw [if_pos (show stamp < st by omega)] at hk;exact hk
  ·rw [if_neg (show ¬ stamp < st by omega)] at hk;exact hk
 | cons x t ih =>
  intro n a sp h hs h0 h1 hk
  obtain ⟨h2,-,h3⟩:=drop_cons h
  have hm:=hd x (List.mem_of_mem_drop (h ▸ List.mem_cons_self))
  have s0:=shortText_size (show x.f0.size≤34359738367 by omega)
  have s1:=varText_size (show x.f1.size≤34359738367 by omega)
  rw [List.length_cons] at h1 hs
  rw [spotsAt] at hk
  refine Ev.step (fun _ => rfl) ?_
  simp only [spec_ScanSeg.l1,rdT162_drop h,wrap64_succ (show n≤9223372036854775806 by omega)]
  refine Ev.pos (by omega) (Ev.pos (by omega) (Ev.bind (spec_l05Short_ev x.f0 (by omega)) (Ev.bind (spec_l01Var_nat x.f1.size (by omega)) ?_)))
  rw [wrap64_id (n:=a + ((shortText x.f0).size:Int)) (by omega) (by omega),wrap64_id (n:=a + ((shortText x.f0).size:Int) + 1) (by omega) (by omega),wrap64_id (n:=a + ((shortText x.f0).size:Int) + 1 + ((varText x.f1.size).size:Int)) (by omega) (by omega),wrap64_id (n:=a + ((shortText x.f0).size:Int) + 1 + ((varText x.f1.size).size:Int) + (x.f1.size:Int)) (by omega) (by omega)]
  refine Ev.ite (fun c => Ev.pos (by omega) ?_) (fun c => Ev.pos (by omega) ?_)
  ·rw [if_pos c] at hk
   exact ih (n + 1) _ _ h3 (by simp;omega) (by omega) (by omega) (by simpa using hk)
  ·rw [if_neg c] at hk
   exact ih (n + 1) _ _ h3 (by simp;omega) (by omega) (by omega) (by simpa using hk)
theorem spec_ScanSeg_loop (rb:ByteArray→Int×List S162×Bool) (hrb:∀ c,c.size≤9000→Ev (fun k => spec_ReadBatch.f k c) (rb c)∧((rb c).2.2 = true→batchOk (rb c).1 (rb c).2.1 = true)) (seg:Int) (list:List ByteArray) (hl:list.length≤20000) (hc:∀ c∈list,c.size≤9000):∀ (rest:List ByteArray) (n:Nat) (a:Int) (sp:List S145) (tx:List ByteArray) (stamp:Int),list.drop n = rest→sp.length≤60 * n→tx.length = n→0≤a→a≤9009 * (n:Int) →
  Ev (fun k => spec_ScanSeg.l0 k seg sp tx stamp list a (n:Int)) (scanOn rb seg a rest (sp,tx,stamp)):=by
 intro rest
 induction rest with
 | nil =>
  intro n a sp tx stamp h hs ht h0 h1
  have:=drop_nil h
  refine Ev.step (fun _ => rfl) ?_
  simp only [spec_ScanSeg.l0]
  exact Ev.neg (by omega) (Ev.now _)
 | cons x r ih =>
  intro n a sp tx stamp h hs ht h0 h1
  obtain ⟨h2,-,h3⟩:=drop_cons h
  have hm:=hc x (List.mem_of_mem_drop (h ▸ List.mem_cons_self))
  have hf:=frame_le8 x
  obtain ⟨q2,q3⟩:=hrb x hm
  refine Ev.step (fun _ => rfl) ?_
  simp only [spec_ScanSeg.l0,rdOf_drop h]
  rw [scanOn]
  refine Ev.pos (by omega) (Ev.pos (by omega) (Ev.bind q2 (Ev.ite (fun c => ?_) (fun c => Ev.done (by rw [if_neg c])))))
  rw [if_pos c]
  obtain ⟨b1,b2,b3⟩:=batchOk_bounds (q3 c)
  have s1:=varText_size (show (rb x).1.toNat≤34359738367 by omega)
  have s2:=varText_size (show (rb x).2.1.length≤34359738367 by omega)
  refine Ev.bind (spec_Frame_ev x (by omega)) (Ev.bind (spec_l01Var_ev (rb x).1 (by omega) (by omega)) (Ev.bind (spec_l01Var_nat (rb x).2.1.length (by omega)) ?_))
  rw [wrap64_id (n:=a + ((frame x).1.size:Int)) (by omega) (by omega),wrap64_id (n:=a + ((frame x).1.size:Int) - (x.size:Int)) (by omega) (by omega),wrap64_id (n:=a + ((frame x).1.size:Int) - (x.size:Int) + ((varText (rb x).1.toNat).size:Int)) (by omega) (by omega),wrap64_id (n:=a + ((frame x).1.size:Int) - (x.size:Int) + ((varText (rb x).1.toNat).size:Int) + ((varText (rb x).2.1.length).size:Int)) (by omega) (by omega)]
  refine spec_ScanSeg_inner seg tx stamp list a n (frame x).1 (rb x).1 (rb x).2.1 b2 b3 (by omega) (by omega) _ (rb x).2.1 0 _ sp rfl (by omega) (by omega) (by omega) ?_
  ·rw [rdOf_drop h,wrap64_id (n:=a + ((frame x).1.size:Int)) (by omega) (by omega),wrap64_succ (show n≤9223372036854775806 by omega)]
   exact ih (n + 1) _ _ _ _ h3 (by rw [List.length_append,spotsAt_length];omega) (by simp [ht]) (by omega) (by omega)
theorem spec_ScanSeg_ev (rb:ByteArray→Int×List S162×Bool) (hrb:∀ c,c.size≤9000→Ev (fun k => spec_ReadBatch.f k c) (rb c)∧((rb c).2.2 = true→batchOk (rb c).1 (rb c).2.1 = true)) (s:ByteArray) (seg:Int):Ev (fun k => spec_ScanSeg.f k s seg) (scanOn rb seg 0 (unframe s).1 ([],[],-1)):=by
 unfold spec_ScanSeg.f
 obtain ⟨u1,u2⟩:=unframe_bounds s
 exact Ev.bind (spec_Unframe_ev s) (spec_ScanSeg_loop rb hrb seg _ u1 u2 _ 0 0 [] [] (-1) rfl (by simp) rfl (by omega) (by omega))
theorem scanOn_len (rb:ByteArray→Int×List S162×Bool) (hrb:∀ c,c.size≤9000→((rb c).2.2 = true→batchOk (rb c).1 (rb c).2.1 = true)) (seg:Int):∀ (l:List ByteArray) (a:Int) (r:List S145×List ByteArray×Int),(∀ c∈l,c.size≤9000)→(scanOn rb seg a l r).1.length≤r.1.length + 60 * l.length∧(scanOn rb seg a l r).2.1.length≤r.2.1.length + l.length
 | [],a,r,_ => by simp [scanOn]
 | c::t,a,r,h => by
  rw [scanOn]
  split
  ·rename_i hc
   have hb:=(batchOk_bounds (hrb c (h c List.mem_cons_self) hc)).2.1
   have:=scanOn_len rb hrb seg t (a + ((frame c).1.size:Int)) (r.1++spotsAt seg (a + ((frame c).1.size:Int) - (c.size:Int) + ((varText (rb c).1.toNat).size:Int) + ((varText (rb c).2.1.length).size:Int)) (rb c).2.1,r.2.1++[c],mx r.2.2 (rb c).1) (fun y hy => h y (List.mem_cons_of_mem _ hy))
   simp only [List.length_append,spotsAt_length,List.length_singleton] at this
   simp only [List.length_cons]
   omega
  ·simp only [List.length_cons];omega
theorem impl_spotsOf_loop (seg:Int) (l:List S162) (hl:l.length≤60) (hd:∀ x∈l,(1≤x.f0.size∧x.f0.size≤10)∧x.f1.size≤40):∀ (rest:List S162) (n:Nat) (a:Int) (acc:List S145),l.drop n = rest→acc.length = n→-1000000≤a→a + 1000 * (rest.length:Int)≤1000000000000 →
  Ev (fun k => impl_spotsOf.l0 k seg a acc l (l.length:Int) (n:Int)) (acc++spotsAt seg a rest):=by
 intro rest
 induction rest with
 | nil =>
  intro n a acc h ha h0 h1
  have:=drop_nil h
  refine Ev.step (fun _ => rfl) ?_
  simp only [impl_spotsOf.l0]
  exact Ev.neg (by omega) (Ev.done (by simp [spotsAt]))
 | cons x r ih =>
  intro n a acc h ha h0 h1
  obtain ⟨h2,-,h3⟩:=drop_cons h
  have hm:=hd x (List.mem_of_mem_drop (h ▸ List.mem_cons_self))
  have s0:=shortText_size (show x.f0.size≤34359738367 by omega)
  have s1:=shortText_size (show x.f1.size≤34359738367 by omega)
  have e1:=short_sz x.f1
  rw [List.length_cons] at h1
  refine Ev.step (fun _ => rfl) ?_
  simp only [impl_spotsOf.l0,rdT162_drop h,wrap64_succ (show n≤9223372036854775806 by omega)]
  refine Ev.pos (by omega) (Ev.pos (by omega) (Ev.pos (by omega) (Ev.bind (impl_short_ev x.f1 (by omega)) (Ev.bind (impl_short_ev x.f0 (by omega)) ?_))))
  rw [wrap64_id (n:=((shortText x.f0).size:Int) + 1) (by omega) (by omega),wrap64_id (n:=((shortText x.f0).size:Int) + 1 + ((shortText x.f1).size:Int)) (by omega) (by omega),wrap64_id (n:=a + (((shortText x.f0).size:Int) + 1 + ((shortText x.f1).size:Int))) (by omega) (by omega),wrap64_id (n:=a + (((shortText x.f0).size:Int) + 1 + ((shortText x.f1).size:Int)) - (x.f1.size:Int)) (by omega) (by omega)]
  have eA:a + (((shortText x.f0).size:Int) + 1 + ((shortText x.f1).size:Int)) = a + ((shortText x.f0).size:Int) + 1 + ((varText x.f1.size).size:Int) + (x.f1.size:Int):=by omega
  have eB:a + ((shortText x.f0).size:Int) + 1 + ((varText x.f1.size).size:Int) + (x.f1.size:Int) - (x.f1.size:Int) = a + ((shortText x.f0).size:Int) + 1 + ((varText x.f1.size).size:Int):=by omega
  rw [eA,eB,spotsAt]
  refine Ev.ite (fun c => Ev.pos (by omega) ?_) (fun c => Ev.pos (by omega) ?_)
  ·rw [if_pos c]
   have:=ih (n + 1) (a + ((shortText x.f0).size:Int) + 1 + ((varText x.f1.size).size:Int) + (x.f1.size:Int)) (acc++[(⟨x.f0,seg,0,-1⟩:S145)]) h3 (by simp [ha]) (by omega) (by omega)
   exact Ev.eq this (by simp)
  ·rw [if_neg c]
   have:=ih (n + 1) (a + ((shortText x.f0).size:Int) + 1 + ((varText x.f1.size).size:Int) + (x.f1.size:Int)) (acc++[(⟨x.f0,seg,a + ((shortText x.f0).size:Int) + 1 + ((varText x.f1.size).size:Int),(x.f1.size:Int)⟩:S145)]) h3 (by simp [ha]) (by omega) (by omega)
   exact Ev.eq this (by simp)
theorem impl_spotsOf_ev (st:Int) (l:List S162) (c:ByteArray) (a seg:Int) (hk:batchOk st l = true) (h0:-100000≤a) (h1:a≤10000000000):Ev (fun k => impl_spotsOf.f k st l c a seg) (spotsAt seg (a + ((varText st.toNat).size:Int) + ((varText l.length).size:Int)) l):=by
 obtain ⟨b1,b2,b3⟩:=batchOk_bounds hk
 have s1:=varText_size (show st.toNat≤34359738367 by omega)
 have s2:=varText_size (show l.length≤34359738367 by omega)
 unfold impl_spotsOf.f
 refine Ev.bind (impl_vars2 st l.length b1 b2) ?_
 have e:wrap64 (a + ((varText st.toNat++varText l.length).size:Int)) = a + ((varText st.toNat).size:Int) + ((varText l.length).size:Int):=by
  rw [size_append,wrap64_id (by omega) (by omega)];omega
 dsimp only
 rw [e]
 exact Ev.eq (impl_spotsOf_loop seg l b2 b3 l 0 _ [] rfl rfl (by omega) (by omega)) (by simp)
theorem impl_Unframe_loopB (s:ByteArray) (hs:s.size≤20000):∀ (m:Nat) (acc:List ByteArray) (a:Int),0≤a→a≤s.size→(acc.length:Int)≤a→(s.size:Int) - a < m→Ev (fun k => impl_Unframe.l0 k s acc a) (unfr s m acc a):=by
 intro m
 induction m with
 | zero => intro acc a h0 h1 h2 h3;omega
 | succ m ih =>
  intro acc a h0 h1 h2 h3
  refine Ev.step (fun _ => rfl) ?_
  simp only [impl_Unframe.l0]
  rw [unfr]
  refine Ev.bind (impl_ReadVar_ev s a (by omega)) ?_
  cases hb:(readVar s a).2.2
  ·have e:unfStep s a = none:=by rw [unfStep,if_pos hb]
   refine Ev.neg (by simp) (Ev.step (fun _ => rfl) ?_)
   simp only [impl_Unframe.j1,e]
   exact Ev.pos trivial (Ev.now _)
  ·obtain ⟨p1,p2,p3,p4,p5,p6,-,-⟩:=readVar_true (readVar_res hb)
   have es:wrap64 (wrap64 ((s.size:Int) - (readVar s a).2.1) - 4) = s.size - (readVar s a).2.1 - 4:=by
    rw [wrap64_id (n:=(s.size:Int) - (readVar s a).2.1) (by omega) (by omega),wrap64_id (by omega) (by omega)]
   have e4:wrap64 ((readVar s a).2.1 + 4) = (readVar s a).2.1 + 4:=wrap64_id (by omega) (by omega)
   have eb:wrap64 ((readVar s a).2.1 + 4 + (readVar s a).1) = (readVar s a).2.1 + 4 + (readVar s a).1:=wrap64_id (by omega) (by omega)
   refine Ev.pos rfl (Ev.step (fun _ => rfl) ?_)
   simp only [impl_Unframe.j1,es,e4,eb]
   by_cases h4:(readVar s a).1 > (s.size:Int) - (readVar s a).2.1 - 4
   ·have e:unfStep s a = none:=by rw [unfStep,if_neg (by simp [hb]),if_pos h4]
    rw [e]
    exact Ev.pos (decide_eq_true h4) (Ev.now _)
   ·refine Ev.neg (by simp;omega) (Ev.pos (by omega) (Ev.pos (by omega) (Ev.pos (by omega) (Ev.bind (impl_Frame_ev _ (by rw [ByteArray.size_extract];omega)) (Ev.ite (fun h5 => Ev.pos (by omega) (Ev.pos (by omega) (Ev.ite (fun h6 => Ev.pos (by omega) ?_) (fun h6 => ?_)))) (fun h5 => ?_))))))
    ·have e:unfStep s a = some (s.extract ((readVar s a).2.1 + 4).toNat ((readVar s a).2.1 + 4 + (readVar s a).1).toNat,(readVar s a).2.1 + 4 + (readVar s a).1):=by
      rw [unfStep,if_neg (by simp [hb]),if_neg h4,if_pos ⟨h5,toList_inj.1 h6⟩]
     rw [e]
     exact ih _ _ (by omega) (by omega) (by simp only [List.length_append,List.length_singleton];omega) (by omega)
    ·have e:unfStep s a = none:=by rw [unfStep,if_neg (by simp [hb]),if_neg h4,if_neg (fun e => h6 (toList_inj.2 e.2))]
     rw [e];exact Ev.now _
    ·have e:unfStep s a = none:=by rw [unfStep,if_neg (by simp [hb]),if_neg h4,if_neg (fun e => h5 e.1)]
     rw [e];exact Ev.now _
theorem impl_Unframe_evB (s:ByteArray):Ev (fun k => impl_Unframe.f k s) (unframe s):=by
 unfold impl_Unframe.f unframe
 refine Ev.ite (fun hc => Ev.done ?_) (fun hc => ?_)
 ·rw [if_pos (show s.size > 20000 by omega)]
 ·rw [if_neg (show ¬ s.size > 20000 by omega)]
  exact impl_Unframe_loopB s (by omega) _ [] 0 (by omega) (by omega) (by simp) (by omega)
def piecesOf (rb:ByteArray→Int×List S162×Bool):Int→List ByteArray→List S113
 | _,[] => []
 | a,c::t => if (rb c).2.2 = true then (⟨⟨(rb c).1,(rb c).2.1⟩,c,a + ((frame c).1.size:Int) - (c.size:Int)⟩:S113)::piecesOf rb (a + ((frame c).1.size:Int)) t else []
theorem impl_batchesOf_loop (rb:ByteArray→Int×List S162×Bool) (hrb:∀ c,c.size≤9000→RB c (rb c)) (list:List ByteArray) (hl:list.length≤20000) (hc:∀ c∈list,c.size≤9000):∀ (rest:List ByteArray) (n:Nat) (a:Int) (acc:List S113),list.drop n = rest→acc.length = n→0≤a→a≤9009 * (n:Int) →
  To (fun k => impl_batchesOf.l0 k acc a list (list.length:Int) (n:Int)) (fun r => r.1 = acc++piecesOf rb a rest):=by
 intro rest
 induction rest with
 | nil =>
  intro n a acc h ha h0 h1
  have:=drop_nil h
  refine To.step (fun _ => rfl) ?_
  simp only [impl_batchesOf.l0]
  exact To.neg (by omega) (To.now (by simp [piecesOf]))
 | cons x r ih =>
  intro n a acc h ha h0 h1
  obtain ⟨h2,-,h3⟩:=drop_cons h
  have hm:=hc x (List.mem_of_mem_drop (h ▸ List.mem_cons_self))
  have hf:=frame_le8 x
  obtain ⟨-,q2,q3⟩:=hrb x hm
  refine To.step (fun _ => rfl) ?_
  simp only [impl_batchesOf.l0,rdOf_drop h,wrap64_succ (show n≤9223372036854775806 by omega)]
  refine To.pos (by omega) (To.pos (by omega) (To.pos (by omega) (To.bind (To.ev (P:=fun z => z = rb x) q2 rfl) (fun z ez => ?_))))
  subst ez
  rw [piecesOf]
  refine To.ite (fun c => ?_) (fun c => To.now (by rw [if_neg c];simp))
  rw [if_pos c]
  refine To.bind (To.ev (P:=fun z => z = frame x) (impl_Frame_ev x (by omega)) rfl) (fun z ez => ?_)
  subst ez
  rw [wrap64_id (n:=a + ((frame x).1.size:Int)) (by omega) (by omega),wrap64_id (n:=a + ((frame x).1.size:Int) - (x.size:Int)) (by omega) (by omega)]
  refine To.pos (by omega) (To.mono (ih (n + 1) (a + ((frame x).1.size:Int)) _ h3 (by simp [ha]) (by omega) (by omega)) (fun z hz => ?_))
  rw [hz];simp
theorem impl_batchesOf_to (rb:ByteArray→Int×List S162×Bool) (hrb:∀ c,c.size≤9000→RB c (rb c)) (s:ByteArray):To (fun k => impl_batchesOf.f k s) (fun r => r.1 = piecesOf rb 0 (unframe s).1):=by
 unfold impl_batchesOf.f
 obtain ⟨u1,u2⟩:=unframe_bounds s
 refine To.bind (To.ev (P:=fun z => z = unframe s) (impl_Unframe_evB s) rfl) (fun z ez => ?_)
 subst ez
 exact To.mono (impl_batchesOf_loop rb hrb _ u1 u2 _ 0 0 [] rfl rfl (by omega) (by omega)) (fun z hz => by rw [hz];simp)
theorem rdP_drop {xs:List S113} {n:Nat} {x:S113} {t:List S113} (h:xs.drop n = x::t):rd_T113 xs (n:Int) = x:=by
 unfold rd_T113
 rw [Int.toNat_natCast];exact (drop_cons h).2.1 _
def scanIn (seg:Int):List S113→List S145×List ByteArray×Int→List S145×List ByteArray×Int
 | [],r => r
 | p::t,r => scanIn seg t (r.1++spotsAt seg (p.f2 + ((varText p.f0.f0.toNat).size:Int) + ((varText p.f0.f1.length).size:Int)) p.f0.f1,r.2.1++[p.f1],mx r.2.2 p.f0.f0)
theorem scanIn_pieces (rb:ByteArray→Int×List S162×Bool) (seg:Int):∀ (l:List ByteArray) (a:Int) (r:List S145×List ByteArray×Int),scanIn seg (piecesOf rb a l) r = scanOn rb seg a l r
 | [],_,_ => rfl
 | c::t,a,r => by
  rw [piecesOf,scanOn]
  split
  ·rw [scanIn,scanIn_pieces rb seg t]
  ·rfl
theorem pieces_mem (rb:ByteArray→Int×List S162×Bool) (hrb:∀ c,c.size≤9000→((rb c).2.2 = true→batchOk (rb c).1 (rb c).2.1 = true)):∀ (l:List ByteArray) (a:Int),(∀ c∈l,c.size≤9000)→0≤a→(piecesOf rb a l).length≤l.length∧∀ p∈piecesOf rb a l,batchOk p.f0.f0 p.f0.f1 = true∧-9000≤p.f2∧p.f2≤a + 9009 * (l.length:Int)
 | [],_,_,_ => ⟨Nat.le_refl _,fun p hp => by cases hp⟩
 | c::t,a,h,h0 => by
  have hf:=frame_le8 c
  have hc:=h c List.mem_cons_self
  rw [piecesOf]
  split
  ·rename_i hk
   obtain ⟨i1,i2⟩:=pieces_mem rb hrb t (a + ((frame c).1.size:Int)) (fun y hy => h y (List.mem_cons_of_mem _ hy)) (by omega)
   refine ⟨by simp only [List.length_cons];omega,fun p hp => ?_⟩
   rcases List.mem_cons.1 hp with rfl | hp
   ·exact ⟨hrb c hc hk,by dsimp only;omega,by dsimp only;simp only [List.length_cons];omega⟩
   ·obtain ⟨j1,j2,j3⟩:=i2 p hp
    exact ⟨j1,j2,by simp only [List.length_cons];omega⟩
  ·exact ⟨by simp,fun p hp => by cases hp⟩
theorem impl_ScanSeg_loop (seg:Int) (ps:List S113) (hl:ps.length≤20000) (hp:∀ p∈ps,batchOk p.f0.f0 p.f0.f1 = true∧-9000≤p.f2∧p.f2≤1000000000):∀ (rest:List S113) (n:Nat) (sp:List S145) (tx:List ByteArray) (stamp:Int),ps.drop n = rest→sp.length≤60 * n→tx.length = n →
  Ev (fun k => impl_ScanSeg.l0 k seg sp tx stamp ps (ps.length:Int) (n:Int)) (scanIn seg rest (sp,tx,stamp)):=by
 intro rest
 induction rest with
 | nil =>
  intro n sp tx stamp h hs ht
  have:=drop_nil h
  refine Ev.step (fun _ => rfl) ?_
  simp only [impl_ScanSeg.l0]
  exact Ev.neg (by omega) (Ev.now _)
 | cons x r ih =>
  intro n sp tx stamp h hs ht
  obtain ⟨h2,-,h3⟩:=drop_cons h
  obtain ⟨m1,m2,m3⟩:=hp x (List.mem_of_mem_drop (h ▸ List.mem_cons_self))
  have b2:=(batchOk_bounds m1).2.1
  refine Ev.step (fun _ => rfl) ?_
  simp only [impl_ScanSeg.l0,rdP_drop h,wrap64_succ (show n≤9223372036854775806 by omega)]
  rw [scanIn]
  exact Ev.pos (by omega) (Ev.pos (by omega) (Ev.pos (by omega) (Ev.bind (impl_spotsOf_ev _ _ _ _ seg m1 (by omega) (by omega)) (Ev.pos (by rw [spotsAt_length];omega) (Ev.pos (by omega) (ih (n + 1) _ _ _ h3 (by rw [List.length_append,spotsAt_length];omega) (by simp [ht])))))))
theorem impl_ScanSeg_ev (rb:ByteArray→Int×List S162×Bool) (hrb:∀ c,c.size≤9000→RB c (rb c)) (s:ByteArray) (seg:Int):Ev (fun k => impl_ScanSeg.f k s seg) (scanOn rb seg 0 (unframe s).1 ([],[],-1)):=by
 obtain ⟨u1,u2⟩:=unframe_bounds s
 obtain ⟨i1,i2⟩:=pieces_mem rb (fun c hc => (hrb c hc).2.2) (unframe s).1 0 u2 (by omega)
 unfold impl_ScanSeg.f
 obtain ⟨z,hz,ez⟩:=impl_batchesOf_to rb hrb s
 refine Ev.bind hz ?_
 rw [ez,←scanIn_pieces rb]
 exact impl_ScanSeg_loop seg _ (by omega) (fun p hp => by have:=i2 p hp;exact ⟨this.1,this.2.1,by omega⟩) _ 0 [] [] (-1) rfl (by simp) rfl
def layS (out:List S145) (s:S145):List S145 :=
 out.filter (fun x => lessK x.f0 s.f0)++(if s.f3 = -1 then [] else [s])++out.filter (fun x => lessK s.f0 x.f0)
theorem laySl (out:List S145) (s:S145):(layS out s).length≤out.length + 1:=by
 have h:∀ l:List S145,(l.filter fun x => lessK x.f0 s.f0).length + (l.filter fun x => lessK s.f0 x.f0).length≤l.length:=by
  intro l
  induction l with
  | nil => simp
  | cons x t ih =>
   have hn:¬ (lessK x.f0 s.f0 = true∧lessK s.f0 x.f0 = true):=fun e => by
    have:=less_trans e.1 e.2
    rw [less_irr] at this;cases this
   cases h1:lessK x.f0 s.f0 <;> cases h2:lessK s.f0 x.f0 <;> simp [h1,h2] <;> first | omega | exact absurd ⟨h1,h2⟩ hn
 have:=h out
 unfold layS
 split <;> simp <;> omega
theorem spec_l08More_l2 (l1 out:List S145) (n:Nat) (a:ByteArray) (b c d:Int) (ho:out.length≤4000000) (r:List S145):∀ (rest:List S145) (m:Nat) (acc:List S145),out.drop m = rest→acc.length + rest.length≤8388608 →
  Ev (fun k => spec_l08More.l0 k l1 (acc++rest.filter fun x => lessK a x.f0) (wrap64 ((n:Int) + 1))) r→Ev (fun k => spec_l08More.l2 k l1 out (n:Int) acc (m:Int) a b c d) r:=by
 intro rest
 induction rest with
 | nil =>
  intro m acc h hl hr
  have:=drop_nil h
  refine Ev.step (fun _ => rfl) ?_
  simp only [spec_l08More.l2]
  refine Ev.neg (by omega) ?_
  simpa using hr
 | cons x t ih =>
  intro m acc h hl hr
  obtain ⟨h1,-,h3⟩:=drop_cons h
  rw [List.length_cons] at hl
  refine Ev.step (fun _ => rfl) ?_
  simp only [spec_l08More.l2,rdT145_drop h,wrap64_succ (show m≤9223372036854775806 by omega)]
  refine Ev.pos (by omega) (Ev.pos (by omega) (Ev.ite (fun hc => Ev.pos (by omega) (ih (m + 1) _ h3 (by simp;omega) ?_)) (fun hc => ih (m + 1) _ h3 (by omega) ?_)))
  ·rw [List.filter_cons_of_pos (by exact hc)] at hr
   simpa using hr
  ·rw [List.filter_cons_of_neg (by exact hc)] at hr
   exact hr
theorem spec_l08More_l1 (l1 out:List S145) (n:Nat) (s:S145) (ho:out.length≤4000000) (r:List S145) (hr:Ev (fun k => spec_l08More.l0 k l1 (layS out s) (wrap64 ((n:Int) + 1))) r):∀ (rest:List S145) (m:Nat) (acc:List S145),out.drop m = rest→acc.length≤m→acc++rest.filter (fun x => lessK x.f0 s.f0) = out.filter (fun x => lessK x.f0 s.f0) →
  Ev (fun k => spec_l08More.l1 k l1 out (n:Int) acc (m:Int) s.f0 s.f1 s.f2 s.f3) r:=by
 intro rest
 induction rest with
 | nil =>
  intro m acc h hl he
  have:=drop_nil h
  rw [List.filter_nil,List.append_nil] at he
  have fin:∀ acc':List S145,acc' = acc++(if s.f3 = -1 then [] else [s])→Ev (fun k => spec_l08More.j2 k l1 out (n:Int) acc' s.f0 s.f1 s.f2 s.f3) r:=by
   rintro acc' rfl
   refine Ev.step (fun _ => rfl) ?_
   simp only [spec_l08More.j2]
   have hal:acc.length≤out.length:=by rw [he];exact List.length_filter_le _ _
   refine spec_l08More_l2 l1 out n s.f0 s.f1 s.f2 s.f3 ho r out 0 _ rfl (by simp;split <;> simp <;> omega) ?_
   rw [he]
   exact hr
  have hal:acc.length≤out.length:=by rw [he];exact List.length_filter_le _ _
  refine Ev.step (fun _ => rfl) ?_
  simp only [spec_l08More.l1]
  refine Ev.neg (by omega) (Ev.ite (fun hc => fin _ (by rw [if_pos hc,List.append_nil])) (fun hc => Ev.pos (by omega) (fin _ (by rw [if_neg hc]))))
 | cons x t ih =>
  intro m acc h hl he
  obtain ⟨h1,-,h3⟩:=drop_cons h
  refine Ev.step (fun _ => rfl) ?_
  simp only [spec_l08More.l1,rdT145_drop h,wrap64_succ (show m≤9223372036854775806 by omega)]
  refine Ev.pos (by omega) (Ev.pos (by omega) (Ev.ite (fun hc => Ev.pos (by omega) (ih (m + 1) _ h3 (by simp;omega) ?_)) (fun hc => ih (m + 1) _ h3 (by omega) ?_)))
  ·rw [List.filter_cons_of_pos (by exact hc)] at he
   rw [←he];simp
  ·rw [List.filter_cons_of_neg (by exact hc)] at he
   exact he
theorem spec_l08More_l0 (l1:List S145) (hl1:l1.length≤1048576):∀ (rest:List S145) (n:Nat) (out:List S145),l1.drop n = rest→out.length + rest.length≤4000000→Ev (fun k => spec_l08More.l0 k l1 out (n:Int)) (rest.foldl layS out):=by
 intro rest
 induction rest with
 | nil =>
  intro n out h ho
  have:=drop_nil h
  refine Ev.step (fun _ => rfl) ?_
  simp only [spec_l08More.l0]
  exact Ev.neg (by omega) (Ev.now _)
 | cons x t ih =>
  intro n out h ho
  obtain ⟨h1,-,h3⟩:=drop_cons h
  rw [List.length_cons] at ho
  refine Ev.step (fun _ => rfl) ?_
  simp only [spec_l08More.l0,rdT145_drop h]
  have:=laySl out x
  refine Ev.pos (by omega) (Ev.pos (by omega) (spec_l08More_l1 l1 out n x (by omega) _ ?_ out 0 [] rfl (by simp) (by simp)))
  rw [wrap64_succ (show n≤9223372036854775806 by omega)]
  exact ih (n + 1) (layS out x) h3 (by omega)
def keysUp (l:List S145):Prop:=l.Pairwise fun x y => lessK x.f0 y.f0 = true
theorem dirIn_up:∀ {l:List S145} {p:Option ByteArray},dirIn p l = true→keysUp l∧∀ q,p = some q→∀ x∈l,lessK q x.f0 = true
 | [],p,_ => ⟨List.Pairwise.nil,fun _ _ x hx => by cases hx⟩
 | y::t,p,h => by
  rw [dirIn,Bool.and_eq_true,Bool.and_eq_true] at h
  obtain ⟨h1,h2⟩:=dirIn_up h.2.2
  refine ⟨List.pairwise_cons.mpr ⟨fun x hx => h2 _ rfl x hx,h1⟩,?_⟩
  rintro q rfl x hx
  rcases List.mem_cons.1 hx with rfl | hx
  ·exact h.2.1
  ·exact less_trans h.2.1 (h2 _ rfl x hx)
theorem keysUp_lay {l:List S145} (h:keysUp l) (s:S145):keysUp (layS l s):=by
 unfold layS keysUp
 have h1:=List.Pairwise.filter (fun x:S145 => lessK x.f0 s.f0) h
 have h2:=List.Pairwise.filter (fun x:S145 => lessK s.f0 x.f0) h
 have m1:∀ x∈l.filter (fun x => lessK x.f0 s.f0),lessK x.f0 s.f0 = true:=fun x hx => (List.mem_filter.1 hx).2
 have m2:∀ x∈l.filter (fun x => lessK s.f0 x.f0),lessK s.f0 x.f0 = true:=fun x hx => (List.mem_filter.1 hx).2
 have m3:∀ x∈(if s.f3 = -1 then [] else [s]),x = s:=fun x hx => by split at hx <;> simp at hx;exact hx
 rw [List.pairwise_append,List.pairwise_append]
 refine ⟨⟨h1,by split <;> simp,fun x hx y hy => ?_⟩,h2,fun x hx y hy => ?_⟩
 ·rw [m3 y hy];exact m1 x hx
 ·rcases List.mem_append.1 hx with hx | hx
  ·exact less_trans (m1 x hx) (m2 y hy)
  ·rw [m3 x hx];exact m2 y hy
def dirMore (l0 l1:List S145):List S145×Bool:=if dirOk l0 = true then (if dirOk (l1.foldl layS l0) = true then (l1.foldl layS l0,true) else ([],false)) else ([],false)
theorem lay_len (l1:List S145):∀ (l0:List S145),(l1.foldl layS l0).length≤l0.length + l1.length:=by
 induction l1 with
 | nil => simp
 | cons x t ih =>
  intro l0
  have:=ih (layS l0 x)
  have:=laySl l0 x
  rw [List.foldl_cons,List.length_cons]
  omega
def keyCmp (key:ByteArray) (x:S145):Int:=Lib.compareBytes x.f0.data.toList key.data.toList
theorem key_lt (key:ByteArray) (x:S145):keyCmp key x < 0↔lessK x.f0 key = true:=by unfold keyCmp lessK;rw [←ByteArray.toList_eq,←ByteArray.toList_eq];exact (cmp_less _ _).1
theorem key_eq (key:ByteArray) (x:S145):keyCmp key x = 0↔x.f0.toList = key.toList:=by unfold keyCmp;rw [←ByteArray.toList_eq,←ByteArray.toList_eq];exact (cmp_less _ _).2
theorem ahead_cons (key:ByteArray) (x:S145) (t:List S145):aheadN (keyCmp key) (x::t) = aheadN (keyCmp key) t + (if lessK x.f0 key = true then 1 else 0):=by
 unfold aheadN
 rw [List.countP_cons]
 congr 1
 by_cases h:lessK x.f0 key = true
 ·rw [if_pos h,if_pos (by rw [decide_eq_true_iff,key_lt];exact h)]
 ·rw [if_neg h,if_neg (by rw [decide_eq_true_iff,key_lt];exact h)]
theorem up_none {key:ByteArray} {x:S145} {t:List S145} (h:keysUp (x::t)) (hx:¬ lessK x.f0 key = true):∀ y∈t,¬ lessK y.f0 key = true:=fun y hy e => hx (less_trans ((List.pairwise_cons.mp h).1 y hy) e)
theorem ahead_none {key:ByteArray} {t:List S145} (h:∀ y∈t,¬ lessK y.f0 key = true):aheadN (keyCmp key) t = 0:=by
 unfold aheadN
 rw [List.countP_eq_zero]
 intro y hy
 rw [decide_eq_true_iff,key_lt]
 exact h y hy
theorem ahead_take (key:ByteArray):∀ (l:List S145),keysUp l→l.take (aheadN (keyCmp key) l) = l.filter (fun x => lessK x.f0 key)∧l.drop (aheadN (keyCmp key) l) = l.filter (fun x => !lessK x.f0 key)
 | [],_ => by simp
 | x::t,h => by
  by_cases hx:lessK x.f0 key = true
  ·obtain ⟨h1,h2⟩:=ahead_take key t (List.pairwise_cons.mp h).2
   rw [ahead_cons,if_pos hx,List.take_succ_cons,List.drop_succ_cons,List.filter_cons_of_pos (by exact hx),List.filter_cons_of_neg (by simp [hx]),h1,h2]
   exact ⟨rfl,rfl⟩
  ·have hn:=up_none h hx
   rw [ahead_cons,if_neg hx,ahead_none hn]
   refine ⟨?_,?_⟩
   ·rw [List.filter_eq_nil_iff.mpr (fun y hy => by rcases List.mem_cons.1 hy with rfl | hy;exact hx;exact hn y hy)];rfl
   ·rw [List.filter_eq_self.mpr (fun y hy => by rcases List.mem_cons.1 hy with rfl | hy;(simp [hx]);(simp [hn y hy]))];rfl
theorem keyStands_at (key:ByteArray) {l:List S145} (h:keysUp l) :
  (stands (keyCmp key) l = true→aheadN (keyCmp key) l < l.length∧l.drop (aheadN (keyCmp key) l + 1) = l.filter (fun x => lessK key x.f0)) ∧
  (stands (keyCmp key) l = false→l.drop (aheadN (keyCmp key) l) = l.filter (fun x => lessK key x.f0)):=by
 have hd:=(ahead_take key l h).2
 have hf:∀ {t:List S145},(∀ x∈t,lessK key x.f0 = true)→∀ {a:List S145},l = a++t→(∀ x∈a,¬ lessK key x.f0 = true)→l.filter (fun x => lessK key x.f0) = t:=by
  intro t ht a hl ha
  rw [hl,List.filter_append,List.filter_eq_nil_iff.mpr (fun x hx => ha x hx),List.filter_eq_self.mpr (fun x hx => ht x hx),List.nil_append]
 have ht:∀ x∈l.take (aheadN (keyCmp key) l),¬ lessK key x.f0 = true:=by
  intro x hx e
  rw [(ahead_take key l h).1] at hx
  have:=less_trans e (List.mem_filter.1 hx).2
  rw [less_irr] at this;cases this
 have hup:keysUp (l.drop (aheadN (keyCmp key) l)):=List.Pairwise.sublist (List.drop_sublist _ _) h
 have hge:∀ x∈l.drop (aheadN (keyCmp key) l),¬ lessK x.f0 key = true:=by
  intro x hx
  rw [hd] at hx
  simpa using (List.mem_filter.1 hx).2
 unfold stands
 rw [←List.head?_drop]
 cases hq:l.drop (aheadN (keyCmp key) l) with
 | nil =>
  refine ⟨fun e => by simp at e,fun _ => ?_⟩
  exact (hf (t:=[]) (by simp) (a:=l.take (aheadN (keyCmp key) l)) (by rw [←hq,List.take_append_drop]) ht).symm
 | cons m t =>
  rw [hq] at hup hge
  have hlt:aheadN (keyCmp key) l < l.length:=by
   rcases Nat.lt_or_ge (aheadN (keyCmp key) l) l.length with h1 | h1
   ·exact h1
   ·rw [List.drop_eq_nil_of_le h1] at hq;cases hq
  have hl:l = l.take (aheadN (keyCmp key) l)++(m::t):=by rw [←hq,List.take_append_drop]
  have ht1:l.drop (aheadN (keyCmp key) l + 1) = t:=by rw [←List.drop_drop,hq];rfl
  simp only [List.head?_cons,decide_eq_true_iff,decide_eq_false_iff_not,key_eq]
  refine ⟨fun e => ⟨hlt,?_⟩,fun e => ?_⟩
  ·rw [ht1]
   refine (hf (t:=t) (fun x hx => ?_) (a:=l.take (aheadN (keyCmp key) l)++[m]) (by rw [List.append_assoc];exact hl) (fun x hx => ?_)).symm
   ·have:=(List.pairwise_cons.mp hup).1 x hx
    unfold lessK at this ⊢
    rw [←e];exact this
   ·rcases List.mem_append.1 hx with hx | hx
    ·exact ht x hx
    ·rw [List.mem_singleton] at hx
     unfold lessK
     rw [hx,e,less_irr];simp
  ·refine (hf (t:=m::t) (fun x hx => ?_) hl ht).symm
   have hm:lessK key m.f0 = true:=by
    cases hc:lessK key m.f0
    ·exact absurd (less_tri (by simpa [lessK] using hge m List.mem_cons_self) hc) e
    ·rfl
   rcases List.mem_cons.1 hx with rfl | hx
   ·exact hm
   ·exact less_trans hm ((List.pairwise_cons.mp hup).1 x hx)
theorem slices_BinarySearchFunc_impl_Spot_impl_Spot_string_loop (l:List S145) (hl:l.length≤3000000) (h:keysUp l) (key:ByteArray):∀ (m lo hi:Nat),lo≤hi→hi≤l.length→hi - lo≤m→(∀ t x,t < lo→l[t]? = some x→keyCmp key x < 0)→(∀ t x,hi≤t→l[t]? = some x→0≤keyCmp key x) →
  Ev (fun k => slices_BinarySearchFunc_impl_Spot_impl_Spot_string.l0 k l key (l.length:Int) (lo:Int) (hi:Int)) (((aheadN (keyCmp key) l:Nat):Int),stands (keyCmp key) l):=by
 have hget:∀ n,n < l.length→l[n]? = some (rd_T145 l (n:Int)):=fun n hn => by unfold rd_T145;rw [Int.toNat_natCast,List.getD_eq_getElem?_getD,List.getElem?_eq_getElem hn];rfl
 have hmono:∀ (i j:Nat) (x y:S145),i≤j→l[i]? = some x→l[j]? = some y→lessK x.f0 y.f0 = true∨x = y:=fun i j x y hij hx hy => by
  obtain ⟨i1,i2⟩:=List.getElem?_eq_some_iff.1 hx
  obtain ⟨j1,j2⟩:=List.getElem?_eq_some_iff.1 hy
  rcases Nat.lt_or_eq_of_le hij with hlt | rfl
  ·left
   have:=List.pairwise_iff_getElem.1 h i j i1 j1 hlt
   rwa [i2,j2] at this
  ·right;rw [←i2,←j2]
 have fin:∀ n:Nat,n≤l.length→(∀ t x,t < n→l[t]? = some x→keyCmp key x < 0)→(∀ t x,n≤t→l[t]? = some x→0≤keyCmp key x)→Ev (fun k => slices_BinarySearchFunc_impl_Spot_impl_Spot_string.l0 k l key (l.length:Int) (n:Int) (n:Int)) (((aheadN (keyCmp key) l:Nat):Int),stands (keyCmp key) l):=fun n hn h1 h2 => by
  have ea:=aheadN_eq (keyCmp key) l n hn h1 h2
  refine Ev.step (fun _ => rfl) ?_
  simp only [slices_BinarySearchFunc_impl_Spot_impl_Spot_string.l0]
  refine Ev.neg (by omega) ?_
  unfold stands
  rw [ea]
  by_cases hc:n < l.length
  ·rw [hget n hc]
   exact Ev.pos (by omega) (Ev.pos (by omega) (Ev.pos (by omega) (Ev.call (a:=keyCmp key (rd_T145 l (n:Int))) rfl (Ev.done rfl))))
  ·rw [List.getElem?_eq_none (by omega)]
   exact Ev.neg (by omega) (Ev.now _)
 intro m
 induction m with
 | zero =>
  intro lo hi h0 h1 h2 h3 h4
  obtain rfl:lo = hi:=by omega
  exact fin lo h1 h3 h4
 | succ m ih =>
  intro lo hi h0 h1 h2 h3 h4
  by_cases hc:lo < hi
  ·have em:wrap64 (((wrap64 ((lo:Int) + (hi:Int))) % 18446744073709551616) / 2) = (((lo + hi) / 2:Nat):Int):=by rw [wrap64_id (n:=(lo:Int) + (hi:Int)) (by omega) (by omega),wrap64_id (by omega) (by omega)];omega
   refine Ev.step (fun _ => rfl) ?_
   simp only [slices_BinarySearchFunc_impl_Spot_impl_Spot_string.l0,em]
   generalize hn:(lo + hi) / 2 = n
   have hn1:lo≤n:=by omega
   have hn2:n < hi:=by omega
   refine Ev.pos (by omega) (Ev.pos (by omega) (Ev.pos (by omega) (Ev.call (a:=keyCmp key (rd_T145 l (n:Int))) rfl (Ev.ite (fun hk => ?_) (fun hk => ?_)))))
   ·rw [wrap64_succ (show n≤9223372036854775806 by omega)]
    refine ih (n + 1) hi (by omega) h1 (by omega) (fun t x ht hx => ?_) h4
    rcases hmono t n x _ (by omega) hx (hget n (by omega)) with hm | rfl
    ·rw [key_lt] at hk ⊢;exact lessK_trans hm hk
    ·exact hk
   ·refine ih lo n (by omega) (by omega) (by omega) h3 (fun t x ht hx => ?_)
    rcases hmono n t _ x ht (hget n (by omega)) hx with hm | rfl
    ·refine Int.not_lt.1 fun hx' => hk ?_
     rw [key_lt] at hx' ⊢;exact lessK_trans hm hx'
    ·exact Int.not_lt.1 hk
  ·obtain rfl:lo = hi:=by omega
   exact fin lo h1 h3 h4
theorem slices_BinarySearchFunc_impl_Spot_impl_Spot_string_ev (l:List S145) (hl:l.length≤3000000) (h:keysUp l) (key:ByteArray):Ev (fun k => slices_BinarySearchFunc_impl_Spot_impl_Spot_string.f k l key) (((aheadN (keyCmp key) l:Nat):Int),stands (keyCmp key) l):=by
 unfold slices_BinarySearchFunc_impl_Spot_impl_Spot_string.f
 exact slices_BinarySearchFunc_impl_Spot_impl_Spot_string_loop l hl h key l.length 0 l.length (by omega) (by omega) (by omega) (fun t x ht => absurd ht (Nat.not_lt_zero _)) (fun t x ht hx => by have:=(List.getElem?_eq_some_iff.1 hx).1;omega)
theorem del_lay {l:List S145} (h:keysUp l) (s:S145) (hd:s.f3 = -1) (hs:stands (keyCmp s.f0) l = true):slices_Delete_impl_Spot_impl_Spot.f l ((aheadN (keyCmp s.f0) l:Nat):Int) (((aheadN (keyCmp s.f0) l + 1:Nat)):Int) = some (layS l s):=by
 obtain ⟨h1,-⟩:=keyStands_at s.f0 h
 have ht:=(ahead_take s.f0 l h).1
 unfold slices_Delete_impl_Spot_impl_Spot.f delO layS
 rw [if_pos (by omega),if_pos (by omega),if_pos (by have:=(h1 hs).1;omega),Int.toNat_natCast,ht,(h1 hs).2,if_pos hd,List.append_nil]
theorem same_lay {l:List S145} (h:keysUp l) (s:S145) (hd:s.f3 = -1) (hs:stands (keyCmp s.f0) l = false):l = layS l s:=by
 obtain ⟨-,h2⟩:=keyStands_at s.f0 h
 have ht:=(ahead_take s.f0 l h).1
 unfold layS
 rw [if_pos hd,List.append_nil,←ht,←h2 hs,List.take_append_drop]
theorem set_lay {l:List S145} (h:keysUp l) (s:S145) (hd:¬ s.f3 = -1) (hs:stands (keyCmp s.f0) l = true):l.set (aheadN (keyCmp s.f0) l) s = layS l s:=by
 obtain ⟨h1,-⟩:=keyStands_at s.f0 h
 have ht:=(ahead_take s.f0 l h).1
 unfold layS
 rw [if_neg hd,List.set_eq_take_append_cons_drop,if_pos (h1 hs).1,ht,(h1 hs).2];simp
theorem ins_lay {l:List S145} (h:keysUp l) (hl:l.length≤3000000) (s:S145) (hd:¬ s.f3 = -1) (hs:stands (keyCmp s.f0) l = false):slices_Insert_impl_Spot_impl_Spot.f l ((aheadN (keyCmp s.f0) l:Nat):Int) [s] = some (layS l s,[s]):=by
 obtain ⟨-,h2⟩:=keyStands_at s.f0 h
 have ht:=(ahead_take s.f0 l h).1
 have ha:=aheadN_le (keyCmp s.f0) l
 unfold slices_Insert_impl_Spot_impl_Spot.f insO layS
 dsimp only
 rw [if_pos (by omega),if_pos (by omega),if_pos (by omega),Int.toNat_natCast,ht,h2 hs,if_neg hd]
 simp
theorem impl_DirMore_loop (l1:List S145) (hl1:l1.length≤3000000) (r:List S145×Bool):∀ (rest:List S145) (n:Nat) (out:List S145),l1.drop n = rest→keysUp out→out.length + rest.length≤3000000→Ev (fun k => (impl_DirOk.f k (rest.foldl layS out)).bind fun t => if t = true then some (rest.foldl layS out,true) else some ([],false)) r →
  Ev (fun k => impl_DirMore.l0 k out l1 (l1.length:Int) (n:Int)) r:=by
 intro rest
 induction rest with
 | nil =>
  intro n out h _ _ hr
  have:=drop_nil h
  refine Ev.step (fun _ => rfl) ?_
  simp only [impl_DirMore.l0]
  exact Ev.neg (by omega) hr
 | cons x t ih =>
  intro n out h hu ho hr
  obtain ⟨h1,-,h3⟩:=drop_cons h
  rw [List.length_cons] at ho
  have hll:=laySl out x
  have ih:=ih (n + 1) (layS out x) h3 (keysUp_lay hu x) (by omega) (by rw [List.foldl_cons] at hr;exact hr)
  have ha:=aheadN_le (keyCmp x.f0) out
  refine Ev.step (fun _ => rfl) ?_
  simp only [impl_DirMore.l0,rdT145_drop h,wrap64_succ (show n≤9223372036854775806 by omega)]
  refine Ev.pos (by omega) (Ev.pos (by omega) (Ev.pos (by omega) (Ev.bind (slices_BinarySearchFunc_impl_Spot_impl_Spot_string_ev out (by omega) hu x.f0) ?_)))
  dsimp only
  rw [wrap64_succ (show aheadN (keyCmp x.f0) out≤9223372036854775806 by omega),Int.toNat_natCast]
  cases hs:stands (keyCmp x.f0) out
  ·refine Ev.ite (fun hd => Ev.neg (by simp) (Ev.pos hd ?_)) (fun hd => Ev.neg hd (Ev.neg (by simp) ?_))
   ·rw [←same_lay hu x hd hs] at ih;exact ih
   ·exact Ev.call (ins_lay hu (by omega) x hd hs) ih
  ·have h4:=((keyStands_at x.f0 hu).1 hs).1
   refine Ev.ite (fun hd => Ev.pos rfl (Ev.call (del_lay hu x hd hs) ih)) (fun hd => Ev.neg hd (Ev.pos rfl (Ev.pos (by omega) (Ev.pos (by omega) ?_))))
   rw [←set_lay hu x hd hs] at ih;exact ih
theorem impl_DirMore_ev (l0 l1:List S145) (h0:l0.length + l1.length≤3000000):Ev (fun k => impl_DirMore.f k l0 l1) (dirMore l0 l1):=by
 unfold impl_DirMore.f dirMore
 refine Ev.bind (impl_DirOk_ev l0 (by omega)) ?_
 have:=lay_len l1 l0
 cases hd:dirOk l0
 ·exact Ev.neg (by simp) (Ev.done (by simp))
 ·have hup:keysUp l0:=by unfold dirOk at hd;rw [Bool.and_eq_true] at hd;exact (dirIn_up hd.2).1
  refine Ev.pos rfl (Ev.pos (by omega) (impl_DirMore_loop l1 (by omega) _ l1 0 ([]++l0) rfl hup (by rw [List.nil_append];omega) ?_))
  rw [List.nil_append]
  refine Ev.bind (impl_DirOk_ev _ (by omega)) ?_
  cases hr:dirOk (l1.foldl layS l0)
  ·exact Ev.neg (by simp) (Ev.done (by simp))
  ·exact Ev.pos rfl (Ev.done (by simp))
def manOk (segs:List Int) (next base bt:Int) (conf:List Int):Bool:=inR segs.length 1 8 && (inR next 0 1000 && (rise 0 (next - 1) none segs && (inR base 0 100000 && (inR bt 0 100000 && confOk conf))))
theorem spec_ManifestOk_ev (segs:List Int) (next base bt:Int) (conf:List Int) (hs:segs.length≤9223372036854775806) (hc:conf.length≤9223372036854775806):Ev (fun k => spec_ManifestOk.f k segs next base bt conf) (manOk segs next base bt conf):=by
 unfold spec_ManifestOk.f manOk
 refine Ev.call (spec_l01In_eq _ _ _) ?_
 cases h1:inR segs.length 1 8
 ·exact Ev.neg (by simp) (Ev.done (by simp))
 refine Ev.pos rfl (Ev.call (spec_l01In_eq _ _ _) ?_)
 cases h2:inR next 0 1000
 ·exact Ev.neg (by simp) (Ev.done (by simp))
 have h2':=inR_true.1 h2
 rw [wrap64_id (by omega) (by omega)]
 refine Ev.pos rfl (Ev.bind (spec_l07Rise_ev segs 0 (next - 1) hs) ?_)
 cases h3:rise 0 (next - 1) none segs
 ·exact Ev.neg (by simp) (Ev.done (by simp))
 refine Ev.pos rfl (Ev.call (spec_l01In_eq _ _ _) ?_)
 cases h4:inR base 0 100000
 ·exact Ev.neg (by simp) (Ev.done (by simp))
 refine Ev.pos rfl (Ev.call (spec_l01In_eq _ _ _) ?_)
 cases h5:inR bt 0 100000
 ·exact Ev.neg (by simp) (Ev.done (by simp))
 exact Ev.pos rfl (Ev.bind (spec_ConfOk_ev conf hc) (Ev.done (by simp)))
def manNums (segs:List Int) (next base bt:Int) (conf:List Int):List Int:=(segs.length:Int)::(segs++(next::base::bt::(conf.length:Int)::conf))
def manText (segs:List Int) (next base bt:Int) (conf:List Int):ByteArray×Bool :=
 if manOk segs next base bt conf = true then sealT (strOfNums ((manNums segs next base bt conf).flatMap fun n => varL n.toNat)) else (⟨#[]⟩,false)
theorem manOk_bounds {segs:List Int} {next base bt:Int} {conf:List Int} (h:manOk segs next base bt conf = true) :
  (1≤segs.length∧segs.length≤8)∧(0≤next∧next≤1000)∧(0≤base∧base≤100000)∧(0≤bt∧bt≤100000)∧(1≤conf.length∧conf.length≤4)∧(∀ x∈segs,0≤x∧x≤999)∧(∀ x∈conf,1≤x∧x≤4):=by
 simp only [manOk,Bool.and_eq_true] at h
 obtain ⟨h1,h2,h3,h4,h5,h6⟩:=h
 have h1:=inR_true.1 h1;have h2:=inR_true.1 h2;have h4:=inR_true.1 h4;have h5:=inR_true.1 h5
 refine ⟨by omega,h2,h4,h5,confOk_len h6,?_,confOk_mem h6⟩
 have rm:∀ (l:List Int) (p:Option Int),rise 0 (next - 1) p l = true→∀ x∈l,0≤x∧x≤999:=by
  intro l
  induction l with
  | nil => intro p _ x hx;cases hx
  | cons y t ih =>
   intro p hp x hx
   have hy:inR y 0 (next - 1) = true∧rise 0 (next - 1) (some y) t = true:=by
    cases p <;> simp only [rise,Bool.and_eq_true] at hp
    ·exact hp
    ·exact ⟨hp.1,hp.2.2⟩
   rcases List.mem_cons.1 hx with rfl | hx
   ·have:=inR_true.1 hy.1;omega
   ·exact ih _ hy.2 x hx
 exact rm segs none h3
theorem spec_ManifestText_loop1 (segs:List Int) (next base bt:Int) (conf:List Int) (hc:conf.length≤1000):∀ (rest:List Int) (n:Nat) (a:List Int),conf.drop n = rest→(∀ x∈rest,0≤x∧x≤1000000)→a.length + 5 * rest.length≤1000000 →
  Ev (fun k => spec_ManifestText.l1 k (strOfNums a) (n:Int) segs next base bt conf) (sealT (strOfNums (a++rest.flatMap fun n => varL n.toNat))):=by
 intro rest
 induction rest with
 | nil =>
  intro n a h _ ha
  have:=drop_nil h
  refine Ev.step (fun _ => rfl) ?_
  simp only [spec_ManifestText.l1]
  exact Ev.neg (by omega) (Ev.bind (spec_Sealed_ev _ (by rw [strOfNums_size];omega)) (Ev.done (by simp)))
 | cons x t ih =>
  intro n a h hm ha
  obtain ⟨h1,-,h3⟩:=drop_cons h
  have hx:=hm x List.mem_cons_self
  have hv:=varL_len (show x.toNat≤34359738367 by omega)
  rw [List.length_cons] at ha
  refine Ev.step (fun _ => rfl) ?_
  simp only [spec_ManifestText.l1,drop_rd h,wrap64_succ (show n≤9223372036854775806 by omega)]
  refine Ev.pos (by omega) (Ev.pos (by omega) (Ev.bind (spec_l01Var_ev x (by omega) (by omega)) ?_))
  simp only [varText,←strOfNums_append,strOfNums_size]
  exact Ev.pos (by omega) (Ev.eq (ih (n + 1) (a++varL x.toNat) h3 (fun y hy => hm y (List.mem_cons_of_mem _ hy)) (by rw [List.length_append];omega)) (by simp))
theorem spec_ManifestText_loop0 (segs:List Int) (next base bt:Int) (conf:List Int) (hs:segs.length≤1000) (hn:0≤next∧next≤1000000) (hb:0≤base∧base≤1000000) (ht:0≤bt∧bt≤1000000) (hc:conf.length≤1000) (hm1:∀ x∈conf,0≤x∧x≤1000000):∀ (rest:List Int) (n:Nat) (a:List Int),segs.drop n = rest→(∀ x∈rest,0≤x∧x≤1000000)→a.length + 5 * rest.length≤100000 →
  Ev (fun k => spec_ManifestText.l0 k (strOfNums a) (n:Int) segs next base bt conf) (sealT (strOfNums (a++(rest++(next::base::bt::(conf.length:Int)::conf)).flatMap fun n => varL n.toNat))):=by
 intro rest
 induction rest with
 | nil =>
  intro n a h _ ha
  have:=drop_nil h
  have v1:=varL_len (show next.toNat≤34359738367 by omega)
  have v2:=varL_len (show base.toNat≤34359738367 by omega)
  have v3:=varL_len (show bt.toNat≤34359738367 by omega)
  have v4:=varL_len (show conf.length≤34359738367 by omega)
  rw [List.length_nil] at ha
  refine Ev.step (fun _ => rfl) ?_
  simp only [spec_ManifestText.l0]
  refine Ev.neg (by omega) (Ev.bind (spec_l01Var_ev next (by omega) (by omega)) ?_)
  simp only [varText,←strOfNums_append,strOfNums_size]
  refine Ev.pos (by omega) (Ev.bind (spec_l01Var_ev base (by omega) (by omega)) ?_)
  simp only [varText,←strOfNums_append,strOfNums_size]
  refine Ev.pos (by rw [List.length_append];omega) (Ev.bind (spec_l01Var_ev bt (by omega) (by omega)) ?_)
  simp only [varText,←strOfNums_append,strOfNums_size]
  refine Ev.pos (by rw [List.length_append,List.length_append];omega) (Ev.bind (spec_l01Var_nat conf.length (by omega)) ?_)
  simp only [varText,←strOfNums_append,strOfNums_size]
  refine Ev.pos (by rw [List.length_append,List.length_append,List.length_append];omega) (Ev.eq (spec_ManifestText_loop1 segs next base bt conf hc conf 0 _ rfl hm1 (by simp only [List.length_append];omega)) ?_)
  simp
 | cons x t ih =>
  intro n a h hm ha
  obtain ⟨h1,-,h3⟩:=drop_cons h
  have hx:=hm x List.mem_cons_self
  have hv:=varL_len (show x.toNat≤34359738367 by omega)
  rw [List.length_cons] at ha
  refine Ev.step (fun _ => rfl) ?_
  simp only [spec_ManifestText.l0,drop_rd h,wrap64_succ (show n≤9223372036854775806 by omega)]
  refine Ev.pos (by omega) (Ev.pos (by omega) (Ev.bind (spec_l01Var_ev x (by omega) (by omega)) ?_))
  simp only [varText,←strOfNums_append,strOfNums_size]
  exact Ev.pos (by omega) (Ev.eq (ih (n + 1) (a++varL x.toNat) h3 (fun y hy => hm y (List.mem_cons_of_mem _ hy)) (by rw [List.length_append];omega)) (by simp))
theorem spec_ManifestText_ev (segs:List Int) (next base bt:Int) (conf:List Int) (hs:segs.length≤9223372036854775806) (hc:conf.length≤9223372036854775806):Ev (fun k => spec_ManifestText.f k segs next base bt conf) (manText segs next base bt conf):=by
 unfold spec_ManifestText.f manText
 refine Ev.bind (spec_ManifestOk_ev segs next base bt conf hs hc) ?_
 cases h:manOk segs next base bt conf
 ·exact Ev.neg (by simp) (Ev.done (by simp))
 ·obtain ⟨b1,b2,b3,b4,b5,b6,b7⟩:=manOk_bounds h
  have v0:=varL_len (show segs.length≤34359738367 by omega)
  refine Ev.pos rfl (Ev.bind (spec_l01Var_nat segs.length (by omega)) ?_)
  exact Ev.eq (spec_ManifestText_loop0 segs next base bt conf (by omega) (by omega) (by omega) (by omega) (by omega) (fun x hx => by have:=b7 x hx;omega) segs 0 _ rfl (fun x hx => by have:=b6 x hx;omega) (by omega)) (by simp [manNums])
theorem spec_Decimal_zero:Ev (fun k => spec_Decimal.f k 0) (⟨#[48]⟩:ByteArray):=Ev.pos rfl (Ev.now _)
theorem spec_l01Figure_dig (n:Nat):spec_l01Figure.f (Int.tmod (n:Int) 10) = some (((48 + n % 10:Nat)):Int):=by
 unfold spec_l01Figure.f
 rw [if_pos (by rw [Int.tmod_eq_emod_of_nonneg (by omega)];omega),tmod10]
theorem strOfNums_one (n:Nat) (h:n < 256):strOfNums [(n:Int)] = ⟨#[UInt8.ofNat n]⟩:=by
 simp [strOfNums]
theorem digits_big {n:Nat} (h:¬ n < 10):Lib.decDigits n = Lib.decDigits (n / 10)++[UInt8.ofNat (48 + n % 10)]:=by
 rw [Lib.decDigits,dif_neg h]
theorem digits_small {n:Nat} (h:n < 10):Lib.decDigits n = [UInt8.ofNat (48 + n)]:=by
 rw [Lib.decDigits,dif_pos h]
def digT (n:Nat):ByteArray:=⟨(Lib.decDigits n).toArray⟩
theorem digT_big {n:Nat} (h:¬ n < 10) (a:ByteArray):digT n++a = digT (n / 10)++(strOfNums [((48 + n % 10:Nat):Int)]++a):=by
 rw [strOfNums_one _ (by omega),digT,digits_big h,digT,←ByteArray.append_assoc]
 congr 1
theorem digT_small {n:Nat} (h:n < 10):digT n = strOfNums [((48 + n % 10:Nat):Int)]:=by
 rw [strOfNums_one _ (by omega),digT,digits_small h,Nat.mod_eq_of_lt h]
theorem spec_Decimal_loop:∀ (n:Nat) (a:ByteArray),0 < n→a.size + n≤4611686018427387904→Ev (fun k => spec_Decimal.l0 k (n:Int) false a) (digT n++a):=by
 intro n
 induction n using Nat.strongRecOn with
 | ind n ih =>
  intro a h0 h
  refine Ev.step (fun _ => rfl) ?_
  have ht:¬ Int.tmod (n:Int) 10 < 0:=by rw [Int.tmod_eq_emod_of_nonneg (by omega)];omega
  simp only [spec_Decimal.l0,tdiv10 n (by omega)]
  refine Ev.neg (by omega) (Ev.neg ht (Ev.call (spec_l01Figure_dig n) (Ev.call rfl ?_)))
  simp only [strOfNums_size,List.length_singleton]
  refine Ev.pos (by omega) ?_
  by_cases hc:n < 10
  ·rw [show n / 10 = 0 by omega,digT_small hc]
   refine Ev.step (fun _ => rfl) ?_
   simp only [spec_Decimal.l0]
   exact Ev.pos rfl (Ev.neg (by simp) (Ev.now _))
  ·rw [digT_big hc]
   exact ih (n / 10) (by omega) _ (by omega) (by rw [size_append,strOfNums_size,List.length_singleton];omega)
theorem spec_Decimal_nat (n:Nat) (h:n≤4611686018427387904):Ev (fun k => spec_Decimal.f k (n:Int)) (digT n):=by
 by_cases h0:n = 0
 ·subst h0
  exact Ev.eq spec_Decimal_zero (by rw [digT,digits_small (by omega)];rfl)
 ·unfold spec_Decimal.f
  rw [decide_eq_false (show ¬ ((n:Nat):Int) < 0 by omega)]
  exact Ev.neg (by omega) (Ev.eq (spec_Decimal_loop n ⟨#[]⟩ (by omega) (by show 0 + n≤_;omega)) (by show digT n++ByteArray.empty = _;simp))
theorem digits_len (n:Nat):(Lib.decDigits n).length≤n + 1:=by
 induction n using Nat.strongRecOn with
 | ind n ih =>
  by_cases hc:n < 10
  ·rw [digits_small hc];simp
  ·rw [digits_big hc,List.length_append,List.length_singleton]
   have:=ih (n / 10) (by omega)
   omega
theorem digT_size (n:Nat):(digT n).size≤n + 1:=by
 show (Lib.decDigits n).toArray.size≤n + 1
 rw [List.size_toArray];exact digits_len n
theorem itoa_nat (n:Nat):(⟨(Lib.itoa (n:Int)).toArray⟩:ByteArray) = digT n:=by
 rw [Lib.itoa,if_neg (by omega),Int.toNat_natCast];rfl
def segT (n:Int):ByteArray:=if inR n 0 999 = true then (⟨#[103]⟩:ByteArray)++digT n.toNat else ⟨#[]⟩
theorem spec_SegName_ev (n:Int):Ev (fun k => spec_SegName.f k n) (segT n):=by
 unfold spec_SegName.f segT
 refine Ev.call (spec_l01In_eq _ _ _) ?_
 cases hb:inR n 0 999
 ·exact Ev.neg (by simp) (Ev.done (by simp))
 ·have:=inR_true.1 hb
  obtain ⟨m,rfl⟩:=Int.eq_ofNat_of_zero_le this.1
  have hs:=digT_size m
  exact Ev.pos rfl (Ev.bind (spec_Decimal_nat m (by omega)) (Ev.pos (by omega) (Ev.done (by simp))))
def irise (next:Int):Option Int→List Int→Bool
 | _,[] => true
 | none,x::t => inR x 0 999 && (decide (x < next) && irise next (some x) t)
 | some q,x::t => inR x 0 999 && (decide (x < next) && (decide (q < x) && irise next (some x) t))
theorem impl_ManifestOk_loop (xs:List Int) (hx:xs.length≤9223372036854775806) (next base bt:Int) (conf:List Int) (hc:conf.length≤9223372036854775806):∀ (rest:List Int) (n:Nat),xs.drop n = rest →
  Ev (fun k => impl_ManifestOk.l0 k xs (xs.length:Int) (n:Int) xs next base bt conf) (irise next (prevOf xs n) rest && (inR xs.length 1 8 && (decide (next≤1000) && (inR base 0 100000 && (inR bt 0 100000 && confOk conf))))):=by
 intro rest
 induction rest with
 | nil =>
  intro n h
  have:=drop_nil h
  have hi:irise next (prevOf xs n) [] = true:=by cases n <;> rfl
  rw [hi,Bool.true_and]
  refine Ev.step (fun _ => rfl) ?_
  simp only [impl_ManifestOk.l0]
  refine Ev.neg (by omega) (Ev.call (impl_within_eq _ _ _) ?_)
  cases h1:inR xs.length 1 8
  ·exact Ev.neg (by simp) (Ev.done (by simp))
  refine Ev.pos rfl (Ev.ite (fun h2 => ?_) (fun h2 => Ev.done (by simp [h2])))
  rw [decide_eq_true h2]
  refine Ev.call (impl_within_eq _ _ _) ?_
  cases h4:inR base 0 100000
  ·exact Ev.neg (by simp) (Ev.done (by simp))
  refine Ev.pos rfl (Ev.call (impl_within_eq _ _ _) ?_)
  cases h5:inR bt 0 100000
  ·exact Ev.neg (by simp) (Ev.done (by simp))
  exact Ev.pos rfl (Ev.bind (impl_ConfOk_ev conf hc) (Ev.done (by simp)))
 | cons x t ih =>
  intro n h
  obtain ⟨h1,-,h3⟩:=drop_cons h
  have ih:=ih (n + 1) h3
  rw [prevOf_next h] at ih
  refine Ev.step (fun _ => rfl) ?_
  simp only [impl_ManifestOk.l0,drop_rd h,wrap64_succ (show n≤9223372036854775806 by omega)]
  refine Ev.pos (by omega) (Ev.pos (by omega) (Ev.pos (by omega) (Ev.call (impl_within_eq _ _ _) ?_)))
  cases hb:inR x 0 999
  ·exact Ev.neg (by simp) (Ev.done (by cases n <;> simp [irise,prevOf,hb]))
  refine Ev.pos rfl (Ev.ite (fun hc => Ev.done ?_) (fun hn => ?_))
  ·have:decide (x < next) = false:=decide_eq_false (by omega)
   cases n <;> simp [irise,prevOf,this]
  have hn:decide (x < next) = true:=decide_eq_true (by omega)
  cases n with
  | zero => exact Ev.neg (by omega) (Ev.eq ih (by simp [irise,prevOf,hb,hn]))
  | succ m =>
   refine Ev.pos (by omega) ?_
   simp only [wrap64_pred (show m≤9223372036854775806 by omega)]
   refine Ev.pos (by omega) (Ev.pos (by omega) (Ev.ite (fun hc => Ev.done ?_) (fun hc => Ev.eq ih ?_)))
   ·simp only [prevOf,irise,hb,hn,decide_eq_false (show ¬ rd xs (m:Int) < x by omega)];simp
   ·simp only [prevOf,irise,hb,hn,decide_eq_true (show rd xs (m:Int) < x by omega)];simp
theorem irise_rise (next:Int) (h:next≤1000):∀ (l:List Int) (p:Option Int),irise next p l = rise 0 (next - 1) p l:=by
 intro l
 induction l with
 | nil => intro p;cases p <;> rfl
 | cons x t ih =>
  intro p
  have e:(inR x 0 999 && decide (x < next)) = inR x 0 (next - 1):=by
   rw [Bool.eq_iff_iff,Bool.and_eq_true,inR_true,inR_true,decide_eq_true_iff];omega
  cases p with
  | none => rw [irise,rise,←ih,←e,Bool.and_assoc]
  | some q => rw [irise,rise,←ih,←e,Bool.and_assoc]
theorem impl_ManifestOk_ev (segs:List Int) (next base bt:Int) (conf:List Int) (hs:segs.length≤9223372036854775806) (hc:conf.length≤9223372036854775806):Ev (fun k => impl_ManifestOk.f k segs next base bt conf) (manOk segs next base bt conf):=by
 refine Ev.eq (impl_ManifestOk_loop segs hs next base bt conf hc segs 0 rfl) ?_
 unfold manOk
 show (irise next none segs && _) = _
 by_cases h:next≤1000
 ·rw [irise_rise next h,decide_eq_true h]
  cases segs with
  | nil => simp [inR]
  | cons x t =>
   by_cases h0:0≤next
   ·rw [show inR next 0 1000 = true from inR_true.2 ⟨h0,h⟩]
    simp only [Bool.true_and]
    cases rise 0 (next - 1) none (x::t) <;> simp
   ·have:rise 0 (next - 1) none (x::t) = false:=by
     rw [rise,show inR x 0 (next - 1) = false from inR_false.2 (by omega),Bool.false_and]
    rw [this];simp
 ·rw [decide_eq_false h,show inR next 0 1000 = false from inR_false.2 (by omega)]
  simp
theorem concat_man (segs:List Int) (next base bt:Int) (conf:List Int) (h1:segs.length≤1000) (h2:conf.length≤1000):slices_Concat_int_int.f [[(segs.length:Int)],segs,[next,base,bt,(conf.length:Int)],conf] = some (manNums segs next base bt conf):=by
 have e:[[(segs.length:Int)],segs,[next,base,bt,(conf.length:Int)],conf].flatten = manNums segs next base bt conf:=by simp [manNums]
 have hl:(manNums segs next base bt conf).length≤3000:=by simp only [manNums,List.length_cons,List.length_append];omega
 unfold slices_Concat_int_int.f
 rw [e,if_pos (by simp),if_pos (by simp),if_pos (by omega)]
theorem impl_ManifestText_ev (segs:List Int) (next base bt:Int) (conf:List Int) (hs:segs.length≤9223372036854775806) (hc:conf.length≤9223372036854775806):Ev (fun k => impl_ManifestText.f k segs next base bt conf) (manText segs next base bt conf):=by
 unfold impl_ManifestText.f manText
 refine Ev.bind (impl_ManifestOk_ev segs next base bt conf hs hc) ?_
 cases h:manOk segs next base bt conf
 ·exact Ev.neg (by simp) (Ev.done (by simp))
 ·obtain ⟨b1,b2,b3,b4,b5,b6,b7⟩:=manOk_bounds h
  refine Ev.pos rfl (Ev.call (concat_man segs next base bt conf (by omega) (by omega)) (Ev.bind (impl_vars_ev (manNums segs next base bt conf) (by simp only [manNums,List.length_cons,List.length_append];omega)) ?_))
  have ha:(manNums segs next base bt conf).all (fun n => inR n 0 1000000000) = true:=by
   rw [List.all_eq_true]
   intro x hx
   rw [inR_true]
   simp only [manNums,List.mem_cons,List.mem_append] at hx
   rcases hx with rfl | hx | rfl | rfl | rfl | rfl | hx
   ·omega
   ·have:=b6 x hx;omega
   ·omega
   ·omega
   ·omega
   ·omega
   ·have:=b7 x hx;omega
  have hl:∀ l:List Int,(∀ x∈l,0≤x∧x≤34359738367)→(l.flatMap fun n => varL n.toNat).length≤5 * l.length:=by
   intro l
   induction l with
   | nil => intro _;simp
   | cons x t ih =>
    intro hm
    have:=ih (fun y hy => hm y (List.mem_cons_of_mem _ hy))
    have hx:=hm x List.mem_cons_self
    have:=varL_len (show x.toNat≤34359738367 by omega)
    rw [List.flatMap_cons,List.length_append,List.length_cons]
    omega
  have hl:=hl (manNums segs next base bt conf) (fun x hx => by have:=inR_true.1 (List.all_eq_true.1 ha x hx);omega)
  have hn:(manNums segs next base bt conf).length = segs.length + conf.length + 5:=by simp only [manNums,List.length_cons,List.length_append];omega
  rw [varsOf,if_pos ha]
  exact Ev.bind (impl_Sealed_ev _ (by rw [strOfNums_size];omega)) (Ev.done (by simp))
theorem impl_SegName_eq (n:Int):impl_SegName.f n = some (segT n):=by
 unfold impl_SegName.f segT
 rw [impl_within_eq,Option.bind_some]
 cases hb:inR n 0 999
 ·rw [if_neg (by simp),if_neg (by simp)]
 ·have:=inR_true.1 hb
  obtain ⟨m,rfl⟩:=Int.eq_ofNat_of_zero_le this.1
  have hs:=digT_size m
  rw [if_pos rfl,if_pos rfl]
  unfold impl_Decimal.f
  rw [if_pos (by omega),if_pos (by omega),Option.bind_some,itoa_nat,if_pos (by omega),Int.toNat_natCast]
theorem laws_eqDisk_refl (l:List S122) (h:l.length≤9223372036854775806):Ev (fun k => laws_eqDisk.f k l l) true :=
 Ev.bind (laws_eqFileS_refl l h) (Ev.pos rfl (Ev.now _))
theorem laws_markDisk_ev (l:List S122) (m:Int) (h0:0≤m) (hm:m + 2 * (l.length:Int)≤4611686018427387904) (hl:l.length≤1152921504606846976):Ev (fun k => laws_markDisk.f k l m) (m + 2 * (l.length:Int),markedFile l m) :=
 Ev.bind (laws_markFileS_ev l m h0 hm hl) (Ev.now _)
def fileRise:Option ByteArray→ByteArray→Bool
 | none,_ => true
 | some q,s => Op.bytesLess q.toList s.toList
def filesIn:Option ByteArray→List S122→Bool
 | _,[] => true
 | p,x::t => inR x.f0.size 1 12 && (decide (x.f1.size≤20000) && (fileRise p x.f0 && filesIn (some x.f0) t))
def diskOk (l:List S122):Bool:=decide (l.length≤30) && filesIn none l
def nameOf (xs:List S122):Nat→Option ByteArray
 | 0 => none
 | n + 1 => some (rd_T122 xs (n:Int)).f0
theorem spec_DiskOk_loop (l:List S122) (hl:l.length≤1048576):∀ (rest:List S122) (n:Nat),l.drop n = rest→Ev (fun k => spec_DiskOk.l0 k (n:Int) l) (filesIn (nameOf l n) rest):=by
 intro rest
 induction rest with
 | nil =>
  intro n h
  have:=drop_nil h
  refine Ev.step (fun _ => rfl) ?_
  simp only [spec_DiskOk.l0]
  exact Ev.neg (by omega) (Ev.done (by simp [filesIn]))
 | cons x t ih =>
  intro n h
  obtain ⟨h1,-,h3⟩:=drop_cons h
  have hk:nameOf l (n + 1) = some x.f0:=by rw [nameOf,rdT122_drop h]
  have ih:=ih (n + 1) h3
  rw [hk] at ih
  refine Ev.step (fun _ => rfl) ?_
  simp only [spec_DiskOk.l0,rdT122_drop h,wrap64_succ (show n≤9223372036854775806 by omega)]
  refine Ev.pos (by omega) (Ev.pos (by omega) (Ev.call (spec_l01In_eq _ _ _) ?_))
  rw [filesIn]
  cases h0:inR x.f0.size 1 12
  ·exact Ev.neg (by simp) (Ev.done (by simp))
  refine Ev.pos rfl (Ev.ite (fun hc => Ev.done ?_) (fun hc => ?_))
  ·rw [decide_eq_false (show ¬ x.f1.size≤20000 by omega)];simp
  rw [decide_eq_true (show x.f1.size≤20000 by omega)]
  cases n with
  | zero => exact Ev.neg (by omega) (Ev.eq ih (by simp [nameOf,fileRise]))
  | succ m =>
   simp only [wrap64_pred (show m≤9223372036854775806 by omega)]
   refine Ev.pos (by omega) (Ev.pos (by omega) (Ev.pos (by omega) (Ev.ite (fun hc => Ev.eq ih ?_) (fun hc => Ev.done ?_))))
   ·simp only [nameOf,fileRise,hc];simp
   ·simp only [nameOf,fileRise,Bool.eq_false_iff.2 hc];simp
theorem spec_DiskOk_ev (l:List S122) (hl:l.length≤1048576):Ev (fun k => spec_DiskOk.f k l) (diskOk l):=by
 unfold spec_DiskOk.f diskOk
 refine Ev.ite (fun hc => Ev.done ?_) (fun hc => Ev.eq (spec_DiskOk_loop l hl l 0 rfl) ?_)
 ·rw [decide_eq_false (show ¬ l.length≤30 by omega)];rfl
 ·rw [decide_eq_true (show l.length≤30 by omega)];rfl
theorem impl_DiskOk_loop (l:List S122) (hl:l.length≤1048576):∀ (rest:List S122) (n:Nat),l.drop n = rest→Ev (fun k => impl_DiskOk.l0 k l (l.length:Int) (n:Int) l) (filesIn (nameOf l n) rest && decide (l.length≤30)):=by
 intro rest
 induction rest with
 | nil =>
  intro n h
  have:=drop_nil h
  refine Ev.step (fun _ => rfl) ?_
  simp only [impl_DiskOk.l0]
  refine Ev.neg (by omega) (Ev.done ?_)
  rw [filesIn,Bool.true_and,decide_eq_decide];omega
 | cons x t ih =>
  intro n h
  obtain ⟨h1,-,h3⟩:=drop_cons h
  have hk:nameOf l (n + 1) = some x.f0:=by rw [nameOf,rdT122_drop h]
  have ih:=ih (n + 1) h3
  rw [hk] at ih
  refine Ev.step (fun _ => rfl) ?_
  simp only [impl_DiskOk.l0,rdT122_drop h,wrap64_succ (show n≤9223372036854775806 by omega)]
  refine Ev.pos (by omega) (Ev.pos (by omega) (Ev.pos (by omega) (Ev.call (impl_within_eq _ _ _) ?_)))
  rw [filesIn]
  cases h0:inR x.f0.size 1 12
  ·exact Ev.neg (by simp) (Ev.done (by simp))
  refine Ev.pos rfl (Ev.ite (fun hc => Ev.done ?_) (fun hc => ?_))
  ·rw [decide_eq_false (show ¬ x.f1.size≤20000 by omega)];simp
  rw [decide_eq_true (show x.f1.size≤20000 by omega)]
  cases n with
  | zero => exact Ev.neg (by omega) (Ev.eq ih (by simp [nameOf,fileRise]))
  | succ m =>
   simp only [wrap64_pred (show m≤9223372036854775806 by omega)]
   refine Ev.pos (by omega) (Ev.pos (by omega) (Ev.pos (by omega) (Ev.ite (fun hc => Ev.eq ih ?_) (fun hc => Ev.done ?_))))
   ·simp only [nameOf,fileRise,hc];simp
   ·simp only [nameOf,fileRise,Bool.eq_false_iff.2 hc];simp
theorem impl_DiskOk_ev (l:List S122) (hl:l.length≤1048576):Ev (fun k => impl_DiskOk.f k l) (diskOk l) :=
 Ev.eq (impl_DiskOk_loop l hl l 0 rfl) (by rw [Bool.and_comm];rfl)
def nameCmp (key:ByteArray) (x:S122):Int:=Lib.compareBytes x.f0.data.toList key.data.toList
theorem name_lt (key:ByteArray) (x:S122):nameCmp key x < 0↔lessK x.f0 key = true:=by unfold nameCmp lessK;rw [←ByteArray.toList_eq,←ByteArray.toList_eq];exact (cmp_less _ _).1
theorem name_eq (key:ByteArray) (x:S122):nameCmp key x = 0↔x.f0.toList = key.toList:=by unfold nameCmp;rw [←ByteArray.toList_eq,←ByteArray.toList_eq];exact (cmp_less _ _).2
def namesUp (l:List S122):Prop:=l.Pairwise fun x y => lessK x.f0 y.f0 = true
theorem filesIn_up:∀ (l:List S122) (p:Option ByteArray),filesIn p l = true→namesUp l∧∀ q,p = some q→∀ x∈l,lessK q x.f0 = true
 | [],_,_ => ⟨List.Pairwise.nil,fun _ _ x hx => by cases hx⟩
 | x::t,p,h => by
  simp only [filesIn,Bool.and_eq_true] at h
  obtain ⟨-,-,h3,h4⟩:=h
  obtain ⟨i1,i2⟩:=filesIn_up t _ h4
  have i2:=i2 _ rfl
  refine ⟨List.Pairwise.cons i2 i1,?_⟩
  rintro q rfl y hy
  rcases List.mem_cons.1 hy with rfl | hy
  ·exact h3
  ·exact less_trans h3 (i2 y hy)
theorem diskOk_up {l:List S122} (h:diskOk l = true):l.length≤30∧namesUp l:=by
 simp only [diskOk,Bool.and_eq_true,decide_eq_true_iff] at h
 exact ⟨h.1,(filesIn_up l none h.2).1⟩
theorem ahead_at {l:List S122} (h:namesUp l) {i:Nat} {x:S122} {key:ByteArray} (hi:l[i]? = some x) (he:x.f0.toList = key.toList):aheadN (nameCmp key) l = i∧stands (nameCmp key) l = true:=by
 obtain ⟨h1,h2⟩:=List.getElem?_eq_some_iff.1 hi
 have ea:aheadN (nameCmp key) l = i:=by
  refine aheadN_eq _ l i (by omega) (fun t y ht hy => ?_) (fun t y ht hy => ?_)
  ·obtain ⟨k1,k2⟩:=List.getElem?_eq_some_iff.1 hy
   rw [name_lt]
   have:=List.pairwise_iff_getElem.1 h t i k1 h1 ht
   rw [h2,k2] at this
   unfold lessK at this ⊢
   rw [←he];exact this
  ·obtain ⟨k1,k2⟩:=List.getElem?_eq_some_iff.1 hy
   refine Int.not_lt.1 fun hn => ?_
   rw [name_lt] at hn
   rcases Nat.lt_or_eq_of_le ht with ht | rfl
   ·have:=List.pairwise_iff_getElem.1 h i t h1 k1 ht
    rw [h2,k2] at this
    unfold lessK at this hn
    rw [he] at this
    have:=less_trans this hn
    rw [less_irr] at this;cases this
   ·have e:x = y:=by rw [←h2,←k2]
    subst e
    unfold lessK at hn
    rw [he,less_irr] at hn;cases hn
 refine ⟨ea,?_⟩
 unfold stands
 rw [ea,hi]
 exact decide_eq_true ((name_eq key x).2 he)
theorem stands_at {l:List S122} {key:ByteArray} (h:stands (nameCmp key) l = true):∃ x,l[aheadN (nameCmp key) l]? = some x∧x.f0.toList = key.toList:=by
 unfold stands at h
 cases hx:l[aheadN (nameCmp key) l]? with
 | none => rw [hx] at h;cases h
 | some x => rw [hx] at h;exact ⟨x,rfl,(name_eq key x).1 (of_decide_eq_true h)⟩
theorem spec_l03At_loop (key:ByteArray) (l:List S122) (hl:l.length≤1048576) (r:Int) (hr1:∀ i x,l[i]? = some x→x.f0.toList = key.toList→r = (i:Nat)) (hr2:(∀ x∈l,x.f0.toList≠key.toList)→r = -1) :
  ∀ (rest:List S122) (n:Nat),l.drop n = rest→(∀ t x,t < n→l[t]? = some x→x.f0.toList≠key.toList)→Ev (fun k => spec_l03At.l0 k key (n:Int) l) r:=by
 intro rest
 induction rest with
 | nil =>
  intro n h hb
  have:=drop_nil h
  refine Ev.step (fun _ => rfl) ?_
  simp only [spec_l03At.l0]
  refine Ev.neg (by omega) (Ev.done (hr2 fun x hx => ?_).symm)
  obtain ⟨i,hi,rfl⟩:=List.getElem_of_mem hx
  exact hb i _ (by omega) (List.getElem?_eq_getElem hi)
 | cons x t ih =>
  intro n h hb
  obtain ⟨h1,-,h3⟩:=drop_cons h
  have hx:l[n]? = some x:=by rw [rdT122_get h1,rdT122_drop h]
  refine Ev.step (fun _ => rfl) ?_
  simp only [spec_l03At.l0,rdT122_drop h,wrap64_succ (show n≤9223372036854775806 by omega)]
  refine Ev.pos (by omega) (Ev.pos (by omega) (Ev.ite (fun hc => Ev.done (hr1 n x hx hc).symm) (fun hc => ih (n + 1) h3 fun t y ht hy => ?_)))
  rcases Nat.lt_or_eq_of_le (Nat.le_of_lt_succ ht) with ht | rfl
  ·exact hb t y ht hy
  ·rw [hx] at hy;injection hy with hy;subst hy;exact hc
def placeAt (key:ByteArray) (l:List S122):Int:=if stands (nameCmp key) l = true then ((aheadN (nameCmp key) l:Nat):Int) else -1
theorem spec_l03At_ev (l:List S122) (hl:l.length≤1048576) (h:namesUp l) (key:ByteArray):Ev (fun k => spec_l03At.f k l key) (placeAt key l):=by
 refine spec_l03At_loop key l hl _ (fun i x hi he => ?_) (fun hn => ?_) l 0 rfl (fun t x ht => absurd ht (Nat.not_lt_zero _))
 ·obtain ⟨e1,e2⟩:=ahead_at h hi he
  rw [placeAt,if_pos e2,e1]
 ·rw [placeAt,if_neg]
  intro hs
  obtain ⟨x,hx,he⟩:=stands_at hs
  exact hn x (List.mem_of_getElem? hx) he
def textAt (key:ByteArray) (l:List S122):ByteArray:=if stands (nameCmp key) l = true then (rd_T122 l ((aheadN (nameCmp key) l:Nat):Int)).f1 else ⟨#[]⟩
theorem spec_l03Text_ev (l:List S122) (hl:l.length≤1048576) (h:namesUp l) (key:ByteArray):Ev (fun k => spec_l03Text.f k l key) (textAt key l):=by
 unfold spec_l03Text.f textAt
 refine Ev.bind (spec_l03At_ev l hl h key) ?_
 unfold placeAt
 cases hs:stands (nameCmp key) l
 ·exact Ev.pos (by simp) (Ev.done (by simp))
 ·obtain ⟨x,hx,-⟩:=stands_at hs
  obtain ⟨h1,-⟩:=List.getElem?_eq_some_iff.1 hx
  rw [if_pos rfl,if_pos rfl]
  exact Ev.neg (by omega) (Ev.pos (by omega) (Ev.pos (by omega) (Ev.now _)))
theorem slices_BinarySearchFunc_impl_File_impl_File_string_loop (l:List S122) (hl:l.length≤1048576) (h:namesUp l) (key:ByteArray):∀ (m lo hi:Nat),lo≤hi→hi≤l.length→hi - lo≤m→(∀ t x,t < lo→l[t]? = some x→nameCmp key x < 0)→(∀ t x,hi≤t→l[t]? = some x→0≤nameCmp key x) →
  Ev (fun k => slices_BinarySearchFunc_impl_File_impl_File_string.l0 k l key (l.length:Int) (lo:Int) (hi:Int)) (((aheadN (nameCmp key) l:Nat):Int),stands (nameCmp key) l):=by
 have hget:∀ n,n < l.length→l[n]? = some (rd_T122 l (n:Int)):=fun n hn => by unfold rd_T122;rw [Int.toNat_natCast,List.getD_eq_getElem?_getD,List.getElem?_eq_getElem hn];rfl
 have hmono:∀ (i j:Nat) (x y:S122),i≤j→l[i]? = some x→l[j]? = some y→lessK x.f0 y.f0 = true∨x = y:=fun i j x y hij hx hy => by
  obtain ⟨i1,i2⟩:=List.getElem?_eq_some_iff.1 hx
  obtain ⟨j1,j2⟩:=List.getElem?_eq_some_iff.1 hy
  rcases Nat.lt_or_eq_of_le hij with hlt | rfl
  ·left
   have:=List.pairwise_iff_getElem.1 h i j i1 j1 hlt
   rwa [i2,j2] at this
  ·right;rw [←i2,←j2]
 have fin:∀ n:Nat,n≤l.length→(∀ t x,t < n→l[t]? = some x→nameCmp key x < 0)→(∀ t x,n≤t→l[t]? = some x→0≤nameCmp key x)→Ev (fun k => slices_BinarySearchFunc_impl_File_impl_File_string.l0 k l key (l.length:Int) (n:Int) (n:Int)) (((aheadN (nameCmp key) l:Nat):Int),stands (nameCmp key) l):=fun n hn h1 h2 => by
  have ea:=aheadN_eq (nameCmp key) l n hn h1 h2
  refine Ev.step (fun _ => rfl) ?_
  simp only [slices_BinarySearchFunc_impl_File_impl_File_string.l0]
  refine Ev.neg (by omega) ?_
  unfold stands
  rw [ea]
  by_cases hc:n < l.length
  ·rw [hget n hc]
   exact Ev.pos (by omega) (Ev.pos (by omega) (Ev.pos (by omega) (Ev.call (a:=nameCmp key (rd_T122 l (n:Int))) rfl (Ev.done rfl))))
  ·rw [List.getElem?_eq_none (by omega)]
   exact Ev.neg (by omega) (Ev.now _)
 intro m
 induction m with
 | zero =>
  intro lo hi h0 h1 h2 h3 h4
  obtain rfl:lo = hi:=by omega
  exact fin lo h1 h3 h4
 | succ m ih =>
  intro lo hi h0 h1 h2 h3 h4
  by_cases hc:lo < hi
  ·have em:wrap64 (((wrap64 ((lo:Int) + (hi:Int))) % 18446744073709551616) / 2) = (((lo + hi) / 2:Nat):Int):=by rw [wrap64_id (n:=(lo:Int) + (hi:Int)) (by omega) (by omega),wrap64_id (by omega) (by omega)];omega
   refine Ev.step (fun _ => rfl) ?_
   simp only [slices_BinarySearchFunc_impl_File_impl_File_string.l0,em]
   generalize hn:(lo + hi) / 2 = n
   have hn1:lo≤n:=by omega
   have hn2:n < hi:=by omega
   refine Ev.pos (by omega) (Ev.pos (by omega) (Ev.pos (by omega) (Ev.call (a:=nameCmp key (rd_T122 l (n:Int))) rfl (Ev.ite (fun hk => ?_) (fun hk => ?_)))))
   ·rw [wrap64_succ (show n≤9223372036854775806 by omega)]
    refine ih (n + 1) hi (by omega) h1 (by omega) (fun t x ht hx => ?_) h4
    rcases hmono t n x _ (by omega) hx (hget n (by omega)) with hm | rfl
    ·rw [name_lt] at hk ⊢;exact lessK_trans hm hk
    ·exact hk
   ·refine ih lo n (by omega) (by omega) (by omega) h3 (fun t x ht hx => ?_)
    rcases hmono n t _ x ht (hget n (by omega)) hx with hm | rfl
    ·refine Int.not_lt.1 fun hx' => hk ?_
     rw [name_lt] at hx' ⊢;exact lessK_trans hm hx'
    ·exact Int.not_lt.1 hk
  ·obtain rfl:lo = hi:=by omega
   exact fin lo h1 h3 h4
theorem slices_BinarySearchFunc_impl_File_impl_File_string_ev (l:List S122) (hl:l.length≤1048576) (h:namesUp l) (key:ByteArray):Ev (fun k => slices_BinarySearchFunc_impl_File_impl_File_string.f k l key) (((aheadN (nameCmp key) l:Nat):Int),stands (nameCmp key) l):=by
 unfold slices_BinarySearchFunc_impl_File_impl_File_string.f
 exact slices_BinarySearchFunc_impl_File_impl_File_string_loop l hl h key l.length 0 l.length (by omega) (by omega) (by omega) (fun t x ht => absurd ht (Nat.not_lt_zero _)) (fun t x ht hx => by have:=(List.getElem?_eq_some_iff.1 hx).1;omega)
theorem impl_fileNo_ev (l:List S122) (hl:l.length≤1048576) (h:namesUp l) (key:ByteArray):Ev (fun k => impl_fileNo.f k l key) (((aheadN (nameCmp key) l:Nat):Int),stands (nameCmp key) l):=by
 unfold impl_fileNo.f
 exact Ev.bind (slices_BinarySearchFunc_impl_File_impl_File_string_ev l hl h key) (Ev.now _)
theorem impl_FileAt_ev (l:List S122) (hd:diskOk l = true) (key:ByteArray):Ev (fun k => impl_FileAt.f k l key) (textAt key l,stands (nameCmp key) l):=by
 obtain ⟨hl,hu⟩:=diskOk_up hd
 unfold impl_FileAt.f textAt
 refine Ev.bind (impl_DiskOk_ev l (by omega)) ?_
 rw [hd]
 refine Ev.pos rfl (Ev.bind (impl_fileNo_ev l (by omega) hu key) ?_)
 cases hs:stands (nameCmp key) l
 ·exact Ev.neg (by simp) (Ev.done (by simp))
 ·obtain ⟨x,hx,-⟩:=stands_at hs
  obtain ⟨h1,-⟩:=List.getElem?_eq_some_iff.1 hx
  exact Ev.pos rfl (Ev.pos (by omega) (Ev.pos (by omega) (Ev.done (by simp))))
theorem spotOk_nums {x:S145} (h:spotOk x = true):(1≤x.f0.size∧x.f0.size≤10)∧(0≤x.f1∧x.f1≤999)∧(0≤x.f2∧x.f2≤20000)∧(0≤x.f3∧x.f3≤40):=by
 simp only [spotOk,Bool.and_eq_true] at h
 obtain ⟨h1,h2,h3,h4⟩:=h
 have:=inR_true.1 h1;have:=inR_true.1 h2;have:=inR_true.1 h3;have:=inR_true.1 h4
 omega
def pairAt (d:List S122) (x:S145):S147:=⟨x.f0,(textAt (segT x.f1) d).extract x.f2.toNat (x.f2 + x.f3).toNat⟩
def mapRows (d:List S122):List S145→List S147→List S147×Bool
 | [],acc => (acc,true)
 | x::t,acc => if x.f2 + x.f3 > ((textAt (segT x.f1) d).size:Int) then ([],false) else mapRows d t (acc++[pairAt d x])
def shelfMap (d:List S122) (dir:List S145):List S147×Bool:=if (diskOk d && dirOk dir) = true then mapRows d dir [] else ([],false)
theorem spec_ShelfMap_loop (d:List S122) (hd:diskOk d = true) (s0:List Int) (a1 a2 a3:Int) (s4:List Int) (dir:List S145) (a6:Int) (hl:dir.length≤1048576):∀ (rest:List S145) (n:Nat) (acc:List S147),dir.drop n = rest→(∀ x∈rest,spotOk x = true)→acc.length + rest.length≤4000000 →
  Ev (fun k => spec_ShelfMap.l0 k acc (n:Int) d s0 a1 a2 a3 s4 dir a6) (mapRows d rest acc):=by
 obtain ⟨hdl,hu⟩:=diskOk_up hd
 intro rest
 induction rest with
 | nil =>
  intro n acc h _ _
  have:=drop_nil h
  refine Ev.step (fun _ => rfl) ?_
  simp only [spec_ShelfMap.l0]
  exact Ev.neg (by omega) (Ev.now _)
 | cons x t ih =>
  intro n acc h hm ha
  obtain ⟨h1,-,h3⟩:=drop_cons h
  obtain ⟨-,-,z2,z3⟩:=spotOk_nums (hm x List.mem_cons_self)
  rw [List.length_cons] at ha
  refine Ev.step (fun _ => rfl) ?_
  simp only [spec_ShelfMap.l0,rdT145_drop h,wrap64_succ (show n≤9223372036854775806 by omega),wrap64_id (show -9223372036854775808≤x.f2 + x.f3 by omega) (by omega)]
  refine Ev.pos (by omega) (Ev.pos (by omega) (Ev.bind (spec_SegName_ev x.f1) (Ev.bind (spec_l03Text_ev d (by omega) hu _) ?_)))
  rw [mapRows]
  refine Ev.ite (fun hc => Ev.done (by rw [if_pos hc])) (fun hc => ?_)
  rw [if_neg hc]
  exact Ev.pos (by omega) (Ev.pos (by omega) (Ev.pos (by omega) (Ev.pos (by omega) (ih (n + 1) _ h3 (fun y hy => hm y (List.mem_cons_of_mem _ hy)) (by simp only [List.length_append,List.length_cons,List.length_nil];omega)))))
theorem dirOk_all {l:List S145} (h:dirOk l = true):l.length≤60∧∀ x∈l,spotOk x = true:=by
 rw [dirOk,Bool.and_eq_true,decide_eq_true_iff] at h
 exact ⟨h.1,dirIn_mem h.2⟩
theorem spec_ShelfMap_ev (d:List S122) (hd:d.length≤1048576) (s0:List Int) (a1 a2 a3:Int) (s4:List Int) (dir:List S145) (a6:Int) (hl:dir.length≤1048576):Ev (fun k => spec_ShelfMap.f k d s0 a1 a2 a3 s4 dir a6) (shelfMap d dir):=by
 unfold spec_ShelfMap.f shelfMap
 refine Ev.call rfl (Ev.bind (spec_DiskOk_ev d hd) ?_)
 cases h1:diskOk d
 ·refine Ev.neg (by simp) (Ev.step (fun _ => rfl) ?_)
  simp only [spec_ShelfMap.j0]
  exact Ev.pos (by simp) (Ev.done (by simp))
 ·refine Ev.pos rfl (Ev.bind (spec_DirOk_ev dir (by omega)) ?_)
  refine Ev.step (fun _ => rfl) ?_
  simp only [spec_ShelfMap.j0]
  cases h2:dirOk dir
  ·exact Ev.pos (by simp) (Ev.done (by simp))
  ·obtain ⟨k1,k2⟩:=dirOk_all h2
   exact Ev.neg (by simp) (Ev.eq (spec_ShelfMap_loop d h1 s0 a1 a2 a3 s4 dir a6 hl dir 0 [] rfl k2 (by simp;omega)) (by simp))
theorem impl_ShelfMap_loop (d:List S122) (hd:diskOk d = true) (dir:List S145) (hl:dir.length≤1048576):∀ (rest:List S145) (n:Nat) (acc:List S147),dir.drop n = rest→(∀ x∈rest,spotOk x = true)→acc.length + rest.length≤4000000 →
  Ev (fun k => impl_ShelfMap.l0 k acc dir (dir.length:Int) (n:Int) d) (mapRows d rest acc):=by
 intro rest
 induction rest with
 | nil =>
  intro n acc h _ _
  have:=drop_nil h
  refine Ev.step (fun _ => rfl) ?_
  simp only [impl_ShelfMap.l0]
  exact Ev.neg (by omega) (Ev.now _)
 | cons x t ih =>
  intro n acc h hm ha
  obtain ⟨h1,-,h3⟩:=drop_cons h
  obtain ⟨-,-,z2,z3⟩:=spotOk_nums (hm x List.mem_cons_self)
  rw [List.length_cons] at ha
  refine Ev.step (fun _ => rfl) ?_
  simp only [impl_ShelfMap.l0,rdT145_drop h,wrap64_succ (show n≤9223372036854775806 by omega),wrap64_id (show -9223372036854775808≤x.f2 + x.f3 by omega) (by omega)]
  refine Ev.pos (by omega) (Ev.pos (by omega) (Ev.pos (by omega) (Ev.call (impl_SegName_eq x.f1) (Ev.bind (impl_FileAt_ev d hd _) ?_))))
  rw [mapRows]
  refine Ev.ite (fun hc => Ev.done (by rw [if_pos hc])) (fun hc => ?_)
  rw [if_neg hc]
  dsimp only at hc
  exact Ev.pos (by omega) (Ev.pos (by omega) (Ev.pos (by dsimp only;omega) (Ev.pos (by omega) (ih (n + 1) _ h3 (fun y hy => hm y (List.mem_cons_of_mem _ hy)) (by simp only [List.length_append,List.length_cons,List.length_nil];omega)))))
theorem impl_ShelfMap_ev (d:List S122) (hd:d.length≤1048576) (s0:List Int) (a1 a2 a3:Int) (s4:List Int) (dir:List S145) (a6:Int) (hl:dir.length≤1048576):Ev (fun k => impl_ShelfMap.f k d s0 a1 a2 a3 s4 dir a6) (shelfMap d dir):=by
 unfold impl_ShelfMap.f shelfMap
 refine Ev.bind (impl_DiskOk_ev d hd) ?_
 cases h1:diskOk d
 ·refine Ev.neg (by simp) (Ev.step (fun _ => rfl) ?_)
  simp only [impl_ShelfMap.j0]
  exact Ev.pos (by simp) (Ev.done (by simp))
 ·refine Ev.pos rfl (Ev.bind (impl_DirOk_ev dir (by omega)) ?_)
  refine Ev.step (fun _ => rfl) ?_
  simp only [impl_ShelfMap.j0]
  cases h2:dirOk dir
  ·exact Ev.pos (by simp) (Ev.done (by simp))
  ·obtain ⟨k1,k2⟩:=dirOk_all h2
   exact Ev.neg (by simp) (Ev.eq (impl_ShelfMap_loop d h1 dir hl dir 0 [] rfl k2 (by simp;omega)) (by simp))
theorem laws_szDisk_ev (xs:List S171) (hx:xs.length≤17592186044416) (hq:∀ x∈xs,x.f0.size≤140737488351232∧x.f1.size≤140737488351232) (c:Int) (h0:0≤c) (h1:c≤1048576) :
  ∃ r,Ev (fun k => laws_szDisk.f k xs c) r∧(¬ r < 0→r = c - ((xs.length + (xs.map wtFile).sum:Nat):Int)):=by
 obtain ⟨r,hr,hb⟩:=laws_szFileS_ev xs hx hq c h0 h1
 by_cases hn:r < 0
 ·exact ⟨-1,Ev.bind hr (Ev.pos hn (Ev.now _)),fun h => absurd (by omega) h⟩
 ·exact ⟨r,Ev.bind hr (Ev.neg hn (Ev.now _)),hb⟩
theorem laws_szManifest_some (s0:List Int) (a b c:Int) (s4:List Int) (m:Int) (h0:0≤m) (h1:m≤1048576) (q0:s0.length≤17592186044416) (q4:s4.length≤17592186044416) :
  ∃ r,laws_szManifest.f s0 a b c s4 m = some r∧(¬ r < 0→r = m - ((s0.length + s4.length:Nat):Int)):=by
 unfold laws_szManifest.f laws_szIntS.f
 rw [wrap64_id (show -9223372036854775808≤m - (s0.length:Int) by omega) (by omega)]
 by_cases g1:m - (s0.length:Int) < 0
 ·exact ⟨-1,by simp [g1],fun h => absurd (by omega) h⟩
 rw [if_neg g1,Option.bind_some,if_neg g1,wrap64_id (show -9223372036854775808≤m - (s0.length:Int) - (s4.length:Int) by omega) (by omega)]
 by_cases g2:m - (s0.length:Int) - (s4.length:Int) < 0
 ·exact ⟨-1,by simp [g2],fun h => absurd (by omega) h⟩
 ·exact ⟨_,by rw [if_neg g2,Option.bind_some,if_neg g2],fun _ => by omega⟩
theorem laws_szShelf_ev (s0:List Int) (a b c:Int) (s4:List Int) (dir:List S173) (a6:Int) (m:Int) (h0:0≤m) (h1:m≤1048576) (q0:s0.length≤17592186044416) (q4:s4.length≤17592186044416) (q5:dir.length≤17592186044416) (hq:∀ x∈dir,x.f0.size≤140737488351232) :
  ∃ r,Ev (fun k => laws_szShelf.f k s0 a b c s4 dir a6 m) r∧(¬ r < 0→r = m - ((s0.length + s4.length + (dir.length + (dir.map wtSpot).sum):Nat):Int)):=by
 obtain ⟨r,hr,hb⟩:=laws_szManifest_some s0 a b c s4 m h0 h1 q0 q4
 by_cases hn:r < 0
 ·exact ⟨-1,Ev.call hr (Ev.pos hn (Ev.now _)),fun h => absurd (by omega) h⟩
 have hb:=hb hn
 obtain ⟨r2,hr2,hb2⟩:=laws_szSpotS_ev dir q5 hq r (by omega) (by omega)
 by_cases hn2:r2 < 0
 ·exact ⟨-1,Ev.call hr (Ev.neg hn (Ev.bind hr2 (Ev.pos hn2 (Ev.now _)))),fun h => absurd (by omega) h⟩
 ·exact ⟨r2,Ev.call hr (Ev.neg hn (Ev.bind hr2 (Ev.neg hn2 (Ev.now _)))),fun _ => by have:=hb2 hn2;omega⟩
theorem laws_toDisk_ev (l:List S171) (hl:l.length≤1048576):Ev (fun k => laws_toDisk.f k l) (l.map toFile):=Ev.bind (laws_toFileS_ev l hl) (Ev.now _)
theorem laws_toManifest_ev (s0:List Int) (a b c:Int) (s4:List Int) (h0:s0.length≤1048576) (h4:s4.length≤1048576):Ev (fun k => laws_toManifest.f k s0 a b c s4) (s0,a,b,c,s4) :=
 Ev.bind (laws_toIntS_ev s0 h0) (Ev.bind (laws_toIntS_ev s4 h4) (Ev.now _))
theorem laws_toShelf_ev (s0:List Int) (a b c:Int) (s4:List Int) (dir:List S173) (a6:Int) (h0:s0.length≤1048576) (h4:s4.length≤1048576) (h5:dir.length≤1048576):Ev (fun k => laws_toShelf.f k s0 a b c s4 dir a6) (s0,a,b,c,s4,dir.map toSpot,a6) :=
 Ev.bind (laws_toManifest_ev s0 a b c s4 h0 h4) (Ev.bind (laws_toSpotS_ev dir h5) (Ev.now _))
theorem laws_eqManifest_refl (s0:List Int) (a b c:Int) (s4:List Int) (h0:s0.length≤9223372036854775806) (h4:s4.length≤9223372036854775806):Ev (fun k => laws_eqManifest.f k s0 a b c s4 s0 a b c s4) true :=
 Ev.bind (laws_eqIntS_refl s0 h0) (Ev.pos rfl (Ev.pos rfl (Ev.pos rfl (Ev.pos rfl (Ev.bind (laws_eqIntS_refl s4 h4) (Ev.pos rfl (Ev.now _)))))))
theorem laws_eqShelf_refl (s0:List Int) (a b c:Int) (s4:List Int) (dir:List S145) (a6:Int) (h0:s0.length≤9223372036854775806) (h4:s4.length≤9223372036854775806) (h5:dir.length≤9223372036854775806):Ev (fun k => laws_eqShelf.f k s0 a b c s4 dir a6 s0 a b c s4 dir a6) true :=
 Ev.bind (laws_eqManifest_refl s0 a b c s4 h0 h4) (Ev.pos rfl (Ev.bind (laws_eqSpotS_refl dir h5) (Ev.pos rfl (Ev.pos rfl (Ev.now _)))))
theorem laws_markManifest_ev (s0:List Int) (a b c:Int) (s4:List Int) (m:Int) (h0:0≤m) (hm:m + (s0.length:Int)≤1152921504606846976) (l0:s0.length≤1152921504606846976) (l4:s4.length≤1152921504606846976):Ev (fun k => laws_markManifest.f k s0 a b c s4 m) (m + (s0.length:Int) + (s4.length:Int),upFrom m s0.length,upFrom (m + (s0.length:Int)) s4.length) :=
 Ev.bind (laws_markIntS_ev s0 m h0 (by omega) l0) (Ev.bind (laws_markIntS_ev s4 (m + (s0.length:Int)) (by omega) (by omega) l4) (Ev.now _))
theorem laws_markShelf_ev (s0:List Int) (a b c:Int) (s4:List Int) (dir:List S145) (a6:Int) (m:Int) (h0:0≤m) (hm:m + (s0.length:Int) + (s4.length:Int) + 4 * (dir.length:Int)≤1152921504606846976) :
  Ev (fun k => laws_markShelf.f k s0 a b c s4 dir a6 m) (m + (s0.length:Int) + (s4.length:Int) + 4 * (dir.length:Int),upFrom m s0.length,upFrom (m + (s0.length:Int)) s4.length,markedSpot dir (m + (s0.length:Int) + (s4.length:Int))) :=
 Ev.bind (laws_markManifest_ev s0 a b c s4 m h0 (by omega) (by omega) (by omega)) (Ev.bind (laws_markSpotS_ev dir (m + (s0.length:Int) + (s4.length:Int)) (by omega) (by omega) (by omega)) (Ev.now _))
end Go.Ep
