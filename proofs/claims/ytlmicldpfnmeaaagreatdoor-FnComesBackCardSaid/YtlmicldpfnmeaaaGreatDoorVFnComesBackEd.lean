/- An abstract run of a Go function's code, and that it is sound. No conditions but those that each statement names. By this repo's programs; comments are taken out. -/
import Derived.Laws.Strings
import Derived.RowKit3
import Derived.Laws.BytesArg
import Derived.Below
import Derived.Test.YtlmicldpfnmeaaaGreatDoorVFnComesBackEc
set_option linter.all false
namespace Go.Ev
section
variable {P:Program} {T:TBs} {F:Hd} (hF:F = F0 P T)
include hF
theorem br_ {b:Bool} {p q:Prop} (h1:b = true→p) (h2:b = false→q):F.branch b p q:=by subst hF;exact ⟨h1,h2⟩
theorem idx_ {i n:Int} {K:Prop} (h:0≤i∧i < n) (hk:K):F.idx i n K:=by subst hF;exact ⟨h,hk⟩
theorem cut_ {l h n:Int} {K:Prop} (hb:0≤l∧l≤h∧h≤n) (hk:K):F.cutB l h n K:=by subst hF;exact ⟨hb,hk⟩
theorem room_ {n m:Int} {b:Nat} {K:Prop} (h:(n + m) * b≤140737488355328∧n + m≤4611686018427387904) (hk:K):F.room n m b K:=by subst hF;exact ⟨h,hk⟩
theorem cat_ {a b:ByteArray} {K:Prop} (h:a.size + b.size≤9223372036854775807) (hk:K):F.catB a b K:=by subst hF;exact ⟨h,hk⟩
theorem nz_ {n:Int} {K:Prop} (h:n≠0) (hk:K):F.nz n K:=by subst hF;exact ⟨h,hk⟩
theorem nn_ {n:Int} {K:Prop} (h:0≤n) (hk:K):F.nn n K:=by subst hF;exact ⟨h,hk⟩
theorem drawn_ {ops:Array Oper} {K:Prop} (h1:P.follows .mixedOrders = true) (h2:drawOk ops = true) (hk:K):F.drawn ops K:=by subst hF;exact ⟨⟨h1,h2⟩,hk⟩
theorem roomM_ {n:Int} {b:Nat} {K:Prop} (h:n * b≤281474976710656∧n≤4611686018427387904) (hk:K):F.roomM n b K:=by subst hF;exact ⟨h,hk⟩
theorem eqn_ {n m:Int} {K:Prop} (h:n = m) (hk:K):F.eqn n m K:=by subst hF;exact ⟨h,hk⟩
theorem cmpT_ {t:TypeId} {sh:List Sh} {a b:List AV} {K:Prop} (h1:eqTy P 20 t sh = true) (h2:P.eqGuardType P.depth t = false) (h3:isStr P t = true) (h4:Z3Z sh a = true) (h5:Z3Z sh b = true) (hk:K):F.cmpT t sh a b K:=by subst hF;exact ⟨⟨h1,h2,h3,h4,h5⟩,hk⟩
theorem isI_ {t:TypeId} {K:Prop} (h:isIfc P t = true) (hk:K):F.isI t K:=by subst hF;exact ⟨h,hk⟩
theorem call_ {f:FuncId} {as as':List AV} {io io':List Ob} {K:AV→List Ob→List Ob→Prop} {r:AV} {news outs:List Ob} (hc:Con P T f as' io' r news outs) (ha:as = as') (hio:io = io') (hk:K r news outs):F.call f as io K:=by
 subst hF;subst ha;subst hio;exact ⟨r,news,outs,hc,hk⟩
theorem loop_ {step:St→(Ex→St→Prop)→Prop} {s:St} {Q:Ex→St→Prop} (I:Nat→St→Prop) (n:Nat) (h0:∃ t,Weak s t∧I n t)
  (hr:∀ n t,I n t→∀ Q':Ex→St→Prop,(∀ s',(∃ m,m < n∧∃ t',Weak s' t'∧I m t')→Q' .normal s')→(∀ e s',e≠.normal→Q e s'→Q' e s')→step t Q'):F.loop step s Q:=by
 subst hF
 exact ⟨I,n,h0,fun n t ht => hr n t ht _ (fun s' h => h) (fun e s' he h => by cases e <;> first | exact absurd rfl he | exact h)⟩
end
theorem itn_ {α:Type} {c:Prop} [Decidable c] {x:Option α} {r:α} (h:(if c then x else none) = some r):c∧x = some r:=by
 split at h
 ·exact ⟨‹_›,h⟩
 ·cases h
theorem itn2_ {α:Type} {c:Prop} [Decidable c] {x:Option α} {r:α} (h:(if c then none else x) = some r):¬ c∧x = some r:=by
 split at h
 ·cases h
 ·exact ⟨‹_›,h⟩
theorem Z7 {α:Type} {c:Prop} [Decidable c] {x:Option α} {r:α}:((if c then x else none) = some r) = (c∧x = some r):=propext ⟨itn_,fun h => by rw [if_pos h.1];exact h.2⟩
theorem Z2 {α:Type} {c:Prop} [Decidable c] {x:Option α} {r:α}:((if c then none else x) = some r) = (¬ c∧x = some r):=propext ⟨itn2_,fun h => by rw [if_neg h.1];exact h.2⟩
theorem bind_ {α β:Type} {x:Option α} {f:α→Option β} {r:β} (h:x.bind f = some r):∃ a,x = some a∧f a = some r:=by
 cases x with
 | none => cases h
 | some a => exact ⟨a,rfl,h⟩
theorem Weak.refl (s:St):Weak s s:=fun _ _ _ _ g _ _ h => ⟨g,h⟩
theorem Weak.trans {s t u:St} (h:Weak s t) (h':Weak t u):Weak s u:=fun T w0 gp obp g w a hI =>
 let ⟨g1,h1⟩:=h T w0 gp obp g w a hI
 h' T w0 gp obp g1 w a h1
def lookA:List (Nat×AV)→Nat→AV
 | [],_ => .dead
 | (n,v)::r,t => if t = n then v else lookA r t
def Za0 (L:List (Nat×AV)):Nat→Nat→List AV
 | _,0 => []
 | k,n + 1 => lookA L k::Za0 L (k + 1) n
def mkOb:List (Nat×Ob)→Nat→Option Ob
 | [],_ => none
 | (n,x)::r,q => if q = n then some x else mkOb r q
def At (n:Nat) (L:List (Nat×AV)) (O:List (Nat×Ob)):St:=⟨Za0 L 0 n,mkOb O⟩
def lv (live:List Nat) (ρ:List (Nat×Nat)) (s:St):List (Nat×AV):=live.map fun t => (t,kA (pars ρ) s.ob (s.sl.getD t .dead))
def obl (s:St) (R:List (Nat×Nat)):List (Nat×Nat)→List (Nat×Ob)
 | [] => []
 | (n,o)::r => match s.ob o with
  | some x => (n,kO R s.ob x)::obl s R r
  | none => obl s R r
def obsOf (ρ:List (Nat×Nat)) (s:St):List (Nat×Ob):=obl s (pars ρ) (pars ρ)
theorem ZcS (L:List (Nat×AV)):∀ (n k t:Nat) (v:AV),(Za0 L k n)[t]? = some v→t < n∧v = lookA L (k + t)
 | 0,_,_,_,h => by simp [Za0] at h
 | n + 1,k,0,v,h => by simp [Za0] at h;exact ⟨by omega,h.symm⟩
 | n + 1,k,t + 1,v,h => by
  obtain ⟨h1,h2⟩:=ZcS L n (k + 1) t v (by simpa [Za0] using h)
  exact ⟨by omega,by rw [h2];congr 1;omega⟩
theorem Zd9 (L:List (Nat×AV)):∀ (n k:Nat),(Za0 L k n).length = n
 | 0,_ => rfl
 | n + 1,k => by simp [Za0,Zd9 L n]
theorem look_lv (live:List Nat) (ρ:List (Nat×Nat)) (s:St) (t:Nat):lookA (lv live ρ s) t = .dead∨lookA (lv live ρ s) t = kA (pars ρ) s.ob (s.sl.getD t .dead):=by
 unfold lv
 induction live with
 | nil => exact .inl rfl
 | cons x live ih =>
  simp only [List.map_cons,lookA]
  by_cases e:t = x
  ·subst e;rw [if_pos rfl];exact .inr rfl
  ·rw [if_neg e];exact ih
theorem mkOb_obl (s:St) (R:List (Nat×Nat)):∀ (l:List (Nat×Nat)) (q:Nat),(l.map (·.1)).Nodup→mkOb (obl s R l) q = match lookL l q with
   | some o => (s.ob o).map (kO R s.ob)
   | none => none
 | [],_,_ => rfl
 | (n,o)::l,q,hn => by
  simp only [List.map_cons,List.nodup_cons] at hn
  have ih:=mkOb_obl s R l q hn.2
  unfold obl lookL
  by_cases e:n = q
  ·subst e
   rw [if_pos rfl]
   cases hs:s.ob o with
   | some x => simp [mkOb,hs]
   | none =>
    simp only [Option.map_none]
    rw [ih]
    have:lookL l n = none:=by
     cases hl:lookL l n with
     | none => rfl
     | some o' => exact absurd (List.mem_map.2 ⟨_,Z7U hl,rfl⟩) hn.1
    rw [this];simp [hs]
  ·rw [if_neg e]
   cases hs:s.ob o with
   | some x => simp only [mkOb];rw [if_neg (fun h => e h.symm)];exact ih
   | none => exact ih
theorem weak_sub {s t:St} (hl:t.sl.length = s.sl.length) (hs:∀ (k:Nat) (v:AV),t.sl[k]? = some v→v = .dead∨s.sl[k]? = some v) (ho:t.ob = s.ob):Weak s t:=by
 intro T w0 gp obp g w a h
 have e:t = ⟨t.sl,s.ob⟩:=by rw [←ho]
 rw [e]
 refine ⟨g,{ h with size:=h.size.trans hl.symm,slots:=fun k v hv => ?_ }⟩
 rcases hs k v hv with rfl | hv'
 ·exact Z0S (x:=.dead) trivial
 ·exact h.slots k v hv'
theorem Zd3 (live:List Nat) (ρ:List (Nat×Nat)) (ob:Nat→Option Ob):∀ (l:List AV) (k t:Nat),t < l.length→(Z4D live ρ ob k l)[t]? = some (if hasN live (k + t) then kA ρ ob (l.getD t .dead) else .dead)
 | [],_,_,h => by simp at h
 | x::l,k,0,h => by simp [Z4D]
 | x::l,k,t + 1,h => by
  have:=Zd3 live ρ ob l (k + 1) t (by simpa using h)
  rw [show k + 1 + t = k + (t + 1) by omega] at this
  simpa [Z4D] using this
theorem weak_at (live:List Nat) (ρ:List (Nat×Nat)) (s:St) {n:Nat} (hn:s.sl.length = n) (h1:Z6K ((pars ρ).map (·.1)) = true) (h2:Z6K ((pars ρ).map (·.2)) = true):Weak s (At n (lv live ρ s) (obsOf ρ s)):=by
 refine (weak_canon live ρ s h1 h2).trans (weak_sub ?_ (fun k v hv => ?_) ?_)
 ·simp only [At,Zd9,canon,Z7F];exact hn.symm
 ·obtain ⟨h3,h4⟩:=ZcS _ _ _ _ _ hv
  rw [Nat.zero_add] at h4
  have hc:=Zd3 live (pars ρ) s.ob s.sl 0 k (by omega)
  rw [Nat.zero_add] at hc
  by_cases hd:v = .dead
  ·exact .inl hd
  ·right
   rcases look_lv live ρ s k with h5 | h5
   ·exact absurd (h4.trans h5) hd
   ·show (Z4D live (pars ρ) s.ob 0 s.sl)[k]? = some v
    rw [hc,h4,h5]
    have hm:hasN live k = true:=by
     cases hm:hasN live k with
     | true => rfl
     | false =>
      exfalso
      apply hd
      rw [h4]
      have:∀ l:List Nat,hasN l k = false→lookA (lv l ρ s) k = .dead:=by
       intro l
       induction l with
       | nil => intro _;rfl
       | cons x l ih =>
        intro hx
        simp only [hasN,Bool.or_eq_false_iff] at hx
        simp only [lv,List.map_cons,lookA]
        rw [if_neg (fun e => by rw [e] at hx;simp at hx)];exact ih hx.2
      exact this live hm
    rw [hm];rfl
 ·funext q
  simp only [At,canon,obsOf]
  exact mkOb_obl s _ _ q (Z4v h1)
end Go.Ev
namespace Go.Ev
open Go.RowKit
theorem f_cat (a b:ByteArray):catS a b = a++b:=rfl
theorem f_not (b:Bool):notB b = !b:=rfl
theorem f_and (a b:Bool):andB a b = (a && b):=rfl
theorem f_neg (k:IntKind) (n:Int):negI k n = k.wrap (0 - n):=rfl
theorem f_wrap (k:IntKind) (n:Int):wrapI k n = k.wrap n:=rfl
theorem f_len (rows:List (List CV)):lenR rows = (rows.length:Int):=rfl
theorem f_slen (s:ByteArray):lenS s = (s.size:Int):=rfl
theorem f_sub (s:ByteArray) (l h:Int):subS s l h = s.extract l.toNat h.toNat:=rfl
theorem f_app (a b:List (List CV)):appR a b = a++b:=rfl
theorem w64 (n:Int):IntKind.i64.wrap n = wrap64 n:=IntKind.wrap_i64 n
theorem w8 (n:Int):IntKind.u8.wrap n = n % 256:=by
 unfold IntKind.wrap
 simp [IntKind.signed,IntKind.bits]
theorem i_add (k:IntKind) (a b:Int):int2 .add k a b = k.wrap (a + b):=rfl
theorem i_sub (k:IntKind) (a b:Int):int2 .sub k a b = k.wrap (a - b):=rfl
theorem i_mul (k:IntKind) (a b:Int):int2 .mul k a b = k.wrap (a * b):=rfl
theorem i_rem (k:IntKind) (a b:Int):int2 .rem k a b = Int.tmod a b:=rfl
theorem rows_cons (x:List CV) (l:List (List CV)):(x::l).length = l.length + 1:=rfl
theorem rows_nil:([]:List (List CV)).length = 0:=rfl
theorem i_quo (k:IntKind) (a b:Int):int2 .quo k a b = k.wrap (Int.tdiv a b):=rfl
theorem w32 (n:Int):IntKind.u32.wrap n = n % 4294967296:=by simp [IntKind.wrap,IntKind.bits,IntKind.signed]
theorem wu64 (n:Int):IntKind.u64.wrap n = n % 18446744073709551616:=by simp [IntKind.wrap,IntKind.bits,IntKind.signed]
theorem i_shr (k:IntKind) (a b:Int):int2 .shr k a b = a / 2 ^ (min b.toNat k.bits):=by
 show a.fdiv (2 ^ min b.toNat k.bits) = _
 exact Int.fdiv_eq_ediv_of_nonneg _ (Int.le_of_lt (Int.pow_pos (by decide)))
theorem i_and (k:IntKind) (a b:Int):int2 .and k a b = Go.bits .and k a b:=rfl
theorem i_or (k:IntKind) (a b:Int):int2 .or k a b = Go.bits .or k a b:=rfl
theorem i_xor (k:IntKind) (a b:Int):int2 .xor k a b = Go.bits .xor k a b:=rfl
theorem c_eql (a b:Int):cmpI .eql a b = (a == b):=rfl
theorem c_neq (a b:Int):cmpI .neq a b = (a != b):=rfl
theorem c_lss (a b:Int):cmpI .lss a b = decide (a < b):=rfl
theorem c_leq (a b:Int):cmpI .leq a b = decide (a≤b):=rfl
theorem c_gtr (a b:Int):cmpI .gtr a b = decide (a > b):=rfl
theorem c_geq (a b:Int):cmpI .geq a b = decide (a≥b):=rfl
theorem less_gt:∀ (a b:List UInt8),(!(Op.bytesLess a b || a == b)) = Op.bytesLess b a
 | [],[] => rfl
 | [],_::_ => rfl
 | _::_,[] => rfl
 | a::x,b::y => by
  have ih:=less_gt x y
  simp only [Op.bytesLess]
  rcases Nat.lt_trichotomy a.toNat b.toNat with h | h | h
  ·have h1:a < b:=UInt8.lt_iff_toNat_lt.mpr h
   have h2:¬ b < a:=fun e => by have:=UInt8.lt_iff_toNat_lt.mp e;omega
   have h3:¬ a = b:=fun e => by rw [e] at h;omega
   simp [h1,h2,h3,Ne.symm h3]
  ·obtain rfl:=UInt8.toNat_inj.mp h
   have h1:¬ a < a:=fun e => by have:=UInt8.lt_iff_toNat_lt.mp e;omega
   simpa [h1] using ih
  ·have h1:b < a:=UInt8.lt_iff_toNat_lt.mpr h
   have h2:¬ a < b:=fun e => by have:=UInt8.lt_iff_toNat_lt.mp e;omega
   have h3:¬ a = b:=fun e => by rw [e] at h;omega
   simp [h1,h2,h3]
theorem s_eql (a b:ByteArray):cmpS .eql a b = (a.toList == b.toList):=rfl
theorem s_neq (a b:ByteArray):cmpS .neq a b = !(a.toList == b.toList):=rfl
theorem s_lss (a b:ByteArray):cmpS .lss a b = Op.bytesLess a.toList b.toList:=rfl
theorem s_leq (a b:ByteArray):cmpS .leq a b = (Op.bytesLess a.toList b.toList || a.toList == b.toList):=rfl
theorem s_gtr (a b:ByteArray):cmpS .gtr a b = Op.bytesLess b.toList a.toList:=less_gt _ _
theorem s_geq (a b:ByteArray):cmpS .geq a b = !(Op.bytesLess a.toList b.toList):=rfl
theorem c_eql_t (a b:Int):(cmpI .eql a b = true) = (a = b):=by simp [cmpI]
theorem c_eql_f (a b:Int):(cmpI .eql a b = false) = (¬ (a = b)):=by simp [cmpI]
theorem c_neq_t (a b:Int):(cmpI .neq a b = true) = (a≠b):=by simp [cmpI]
theorem c_neq_f (a b:Int):(cmpI .neq a b = false) = (a = b):=by simp [cmpI]
theorem c_lss_t (a b:Int):(cmpI .lss a b = true) = (a < b):=by simp [cmpI]
theorem c_lss_f (a b:Int):(cmpI .lss a b = false) = (¬ (a < b)):=by simp [cmpI]
theorem c_leq_t (a b:Int):(cmpI .leq a b = true) = (a≤b):=by simp [cmpI]
theorem c_leq_f (a b:Int):(cmpI .leq a b = false) = (¬ (a≤b)):=by simp [cmpI]
theorem c_gtr_t (a b:Int):(cmpI .gtr a b = true) = (a > b):=by simp [cmpI]
theorem c_gtr_f (a b:Int):(cmpI .gtr a b = false) = (¬ (a > b)):=by simp [cmpI]
theorem c_geq_t (a b:Int):(cmpI .geq a b = true) = (a≥b):=by simp [cmpI]
theorem c_geq_f (a b:Int):(cmpI .geq a b = false) = (¬ (a≥b)):=by simp [cmpI]
theorem s_eql_t (a b:ByteArray):(cmpS .eql a b = true) = (a.toList = b.toList):=by simp [cmpS]
theorem s_eql_f (a b:ByteArray):(cmpS .eql a b = false) = (¬ a.toList = b.toList):=by simp [cmpS]
theorem s_neq_t (a b:ByteArray):(cmpS .neq a b = true) = (¬ a.toList = b.toList):=by simp [cmpS]
theorem s_neq_f (a b:ByteArray):(cmpS .neq a b = false) = (a.toList = b.toList):=by simp [cmpS]
theorem s_lss_f (a b:ByteArray):(cmpS .lss a b = false) = (¬ Op.bytesLess a.toList b.toList = true):=by rw [s_lss];simp
theorem s_gtr_f (a b:ByteArray):(cmpS .gtr a b = false) = (¬ Op.bytesLess b.toList a.toList = true):=by rw [s_gtr];simp
theorem s_geq_t (a b:ByteArray):(cmpS .geq a b = true) = (¬ Op.bytesLess a.toList b.toList = true):=by rw [s_geq];simp
theorem s_geq_f (a b:ByteArray):(cmpS .geq a b = false) = (Op.bytesLess a.toList b.toList = true):=by rw [s_geq];simp
theorem n_t (b:Bool):(notB b = true) = (b = false):=by cases b <;> simp [notB]
theorem n_f (b:Bool):(notB b = false) = (b = true):=by cases b <;> simp [notB]
theorem b_f (b:Bool):(b = false) = (¬ b = true):=by cases b <;> simp
def nI (k:IntKind) (l:List Int):List (List CV):=l.map fun n => [.int k n]
def nS (l:List ByteArray):List (List CV):=l.map fun s => [.str s]
theorem nI_len (k:IntKind) (l:List Int):(nI k l).length = l.length:=by simp [nI]
theorem nS_len (l:List ByteArray):(nS l).length = l.length:=by simp [nS]
theorem nI_app (k:IntKind) (l m:List Int):nI k (l++m) = nI k l++nI k m:=by simp [nI]
theorem nS_app (l m:List ByteArray):nS (l++m) = nS l++nS m:=by simp [nS]
theorem nI_nil (k:IntKind):nI k [] = []:=rfl
theorem nS_nil:nS [] = []:=rfl
theorem nI_fold (k:IntKind) (l m:List Int):nI k l++nI k m = nI k (l++m):=(nI_app k l m).symm
theorem nS_fold (l m:List ByteArray):nS l++nS m = nS (l++m):=(nS_app l m).symm
theorem lit1 (k:IntKind) (a:Int):[[CV.int k a]] = nI k [a]:=rfl
theorem consI (k:IntKind) (a:Int) (l:List Int):[CV.int k a]::nI k l = nI k (a::l):=rfl
theorem consS (a:ByteArray) (l:List ByteArray):[CV.str a]::nS l = nS (a::l):=rfl
theorem f_neg2 (k:IntKind) (n:Int):negI k n = k.wrap (-n):=by rw [f_neg,Int.zero_sub]
theorem sz_mk (l:List UInt8):(⟨⟨l⟩⟩:ByteArray).size = l.length:=rfl
theorem rows_app0 (l:List (List CV)):[]++l = l:=rfl
theorem q_n (n:Nat) (b:Int):Int.tdiv (n:Int) b = (n:Int) / b:=Int.tdiv_eq_ediv_of_nonneg (by omega)
theorem r_n (n:Nat) (b:Int):Int.tmod (n:Int) b = (n:Int) % b:=Int.tmod_eq_emod_of_nonneg (by omega)
theorem tn_n (n:Nat):(n:Int).toNat = n:=Int.toNat_natCast n
theorem tn0:(0:Int).toNat = 0:=rfl
theorem litS (a:ByteArray):[[CV.str a]] = nS [a]:=rfl
theorem Z3s {α:Type} (c:α→List CV) (l:List α) (i:Int) (k:Nat):gC (l.map c) i k = match l[i.toNat]? with
  | some x => ((c x)[k]?).getD (.bool false)
  | none => .bool false:=by
 unfold gC
 simp only [List.getD_eq_getElem?_getD,List.getElem?_map]
 cases l[i.toNat]? <;> rfl
theorem gI_nI (k:IntKind) (l:List Int) (i:Int):gI (nI k l) i 0 = l.getD i.toNat 0:=by
 unfold gI nI
 rw [Z3s,List.getD_eq_getElem?_getD]
 cases l[i.toNat]? <;> rfl
theorem gS_nS (l:List ByteArray) (i:Int):gS (nS l) i 0 = l.getD i.toNat ByteArray.empty:=by
 unfold gS nS
 rw [Z3s,List.getD_eq_getElem?_getD]
 cases l[i.toNat]? <;> rfl
theorem cutR_nI (k:IntKind) (l:List Int) (a b:Int):cutR (nI k l) a b = nI k ((l.drop a.toNat).take (b.toNat - a.toNat)):=by
 unfold cutR nI;rw [←List.map_drop,←List.map_take]
theorem cutR_nS (l:List ByteArray) (a b:Int):cutR (nS l) a b = nS ((l.drop a.toNat).take (b.toNat - a.toNat)):=by
 unfold cutR nS;rw [←List.map_drop,←List.map_take]
theorem ZcW:∀ (l:List Int) (r:ByteArray),l.foldl (fun r n => r.push (UInt8.ofNat n.toNat)) r = ⟨r.data++(l.map fun n => UInt8.ofNat n.toNat).toArray⟩
 | [],r => by simp
 | n::l,r => by
  rw [List.foldl_cons,ZcW l]
  simp [ByteArray.push]
theorem strOf_nI (l:List Int):strOf (nI .u8 l) = strOfNums l:=by
 rw [Zbh (nI .u8 l) l rfl,ZcW]
 unfold strOfNums
 have:ByteArray.empty.data = #[]:=rfl
 rw [this,Array.empty_append]
theorem tl_mk (l:List UInt8):(⟨⟨l⟩⟩:ByteArray).toList = l:=by rw [ByteArray.toList_eq]
theorem mkR_nI (n:Int) (k:IntKind):mkR n [.int k] = nI k (List.replicate n.toNat 0):=by simp [mkR,nI,zeroC]
theorem Z4F {α:Type} (c:α→List CV) (l:List α) (i:Int) (off:Nat) (vs:List CV) (x':α) (d:α) (h:c x' = setCs (c (l.getD i.toNat d)) off vs):setR (l.map c) i off vs = (l.set i.toNat x').map c:=by
 unfold setR
 rw [List.map_set]
 by_cases hi:i.toNat < l.length
 ·have e:(l.map c).getD i.toNat [] = c (l.getD i.toNat d):=by simp [List.getD_eq_getElem?_getD,hi]
  rw [e,h]
 ·rw [List.set_eq_of_length_le (by simp;omega),List.set_eq_of_length_le (by simp;omega)]
theorem setR_nI (k:IntKind) (l:List Int) (i v:Int):setR (nI k l) i 0 [.int k v] = nI k (l.set i.toNat v):=Z4F _ l i 0 _ v 0 rfl
theorem setR_nS (l:List ByteArray) (i:Int) (v:ByteArray):setR (nS l) i 0 [.str v] = nS (l.set i.toNat v):=Z4F _ l i 0 _ v ByteArray.empty rfl
end Go.Ev
namespace Go.Ev
theorem ne_ret:Ex.ret≠Ex.normal:=fun h => nomatch h
theorem ne_exit (n:Nat):Ex.exit n≠Ex.normal:=fun h => nomatch h
theorem not_t (b:Bool):((!b) = true) = (b = false):=by cases b <;> simp
theorem nn_t (p:Prop):(¬ ¬ p) = p:=propext Classical.not_not
theorem if_nn {α:Type} {c:Prop} [Decidable (¬ c)] (h:c) {x y:α}:(if ¬ c then x else y) = y:=if_neg (fun k => k h)
def nilTo (o:Nat) (x y:AV):Prop:=y = x∨(y = .own o∧∃ sh,x = .nil sh)
def relOb (o:Nat) (a b:Option Ob):Prop:=b = a∨∃ cs cs',a = some (.box cs)∧b = some (.box cs')∧cs'.length = cs.length∧∀ (k:Nat) (c:AV),cs'[k]? = some c→∃ u,cs[k]? = some u∧nilTo o u c
theorem weak_mint {s s1:St} {o e:Nat} {sh:List Sh} (hn:s.ob o = none) (hl:s1.sl.length = s.sl.length) (hs:∀ (t:Nat) (v:AV),s1.sl[t]? = some v→∃ u,s.sl[t]? = some u∧nilTo o u v)
  (h1:s1.ob o = some (.row false e sh [])) (ho:∀ q,q≠o→relOb o (s.ob q) (s1.ob q)):Weak s s1:=by
 intro T w0 gp obp g w a hI
 let g':Gh:=⟨g.blk,fun q => if q = o then .slice none 0 0 else g.top q,g.G⟩
 have top_:∀ q,q≠o→g'.top q = g.top q:=fun q h => if_neg h
 have topo:g'.top o = .slice none 0 0:=if_pos rfl
 have hk:Keep g s.ob g' s1.ob:=fun q x hx => by
  have hq:q≠o:=fun h => by subst h;rw [hn] at hx;cases hx
  rcases ho q hq with h | ⟨cs,cs',h2,h3,_,_⟩
  ·exact Keep.one (h.trans hx) rfl (top_ q hq)
  ·obtain rfl:=Option.some.inj (h2.symm.trans hx)
   exact ⟨_,h3,fun _ _ => ⟨⟨cs,rfl⟩,rfl⟩,fun z e sh rows h4 => (by cases h4),fun _ _ => ⟨cs',rfl⟩⟩
 have he:Ext w g.G w g'.G:=Ext.refl w g.G
 have own0:∀ v,v = Value.slice none 0 0→Rep0 w g' s1.ob v (.own o):=fun v h => ⟨⟨_,h1⟩,fun _ _ _ _ _ => h.trans topo.symm⟩
 have step0:∀ v x y,nilTo o x y→Rep0 w g s.ob v x→Rep0 w g' s1.ob v y:=fun v x y h hr => by
  rcases h with rfl | ⟨rfl,sh,rfl⟩
  ·exact hr.keep he hk
  ·exact own0 v hr
 have stepL:∀ x y,nilTo o x y→Z1X x→Z1X y:=fun x y h hr => by
  rcases h with rfl | ⟨rfl,sh,rfl⟩
  ·exact hr
  ·trivial
 have ob_:∀ q y,s1.ob q = some y→q≠o→∃ x,s.ob q = some x∧obBlk g' q y = obBlk g q x:=fun q y hy hq => by
  rcases ho q hq with h | ⟨cs,cs',h2,h3,_,_⟩
  ·refine ⟨y,h.symm.trans hy,?_⟩
   cases y <;> simp only [obBlk]
   ·rfl
   ·rw [top_ q hq]
  ·obtain rfl:=Option.some.inj (h3.symm.trans hy)
   exact ⟨_,h2,rfl⟩
 have oo:∀ y b,s1.ob o = some y→obBlk g' o y = some b→False:=fun y b hy hb => by
  obtain rfl:=Option.some.inj (h1.symm.trans hy)
  simp only [obBlk,topo] at hb
  simp [Value.ownBlock] at hb
 refine ⟨g',{ size:=hI.size.trans hl.symm,slots:=fun t v hv => ?_,defers:=hI.defers,obs:=fun q x hx => ?_,inj:=fun q q' x x' b h2 h3 h4 h5 => ?_,fresh:=fun q x b h2 h3 => ?_,grow:=hI.grow,old:=hI.old,gz:=hI.gz,par:=hI.par,keep:=hI.keep.trans hk,ext:=hI.ext,tb0:=hI.tb0,pnum:=hI.pnum }⟩
 ·obtain ⟨u,hu,hr⟩:=hs t v hv
  have hR:=hI.slots t u hu
  rcases hr with rfl | ⟨rfl,sh,rfl⟩
  ·exact hR.keep he hk
  ·exact own0 _ hR
 ·by_cases hq:q = o
  ·subst hq
   obtain rfl:=Option.some.inj (h1.symm.trans hx)
   refine ⟨[],⟨by simp,.inl ⟨topo,rfl⟩⟩,fun _ h => (List.not_mem_nil h).elim,fun b hb => ?_,fun j row k cv hj => by simp at hj⟩
   rw [topo] at hb;simp [Value.ownBlock] at hb
  ·rcases ho q hq with h | ⟨cs,cs',h2,h3,h4,h5⟩
   ·have hx':=h.symm.trans hx
    have hR:=hI.obs q x hx'
    cases x with
    | gone => trivial
    | box cs =>
     obtain ⟨vs,e1,k1,k2,k3,k4⟩:=hR
     exact ⟨vs,e1,k1,k2,fun k c hc => ⟨(k3 k c hc).1.keep he hk,(k3 k c hc).2⟩,k4⟩
    | row z1 e1 sh1 rows =>
     obtain ⟨cs,k1,k2,k3,k4⟩:=hR
     refine ⟨cs,?_,k2,?_,k4⟩
     ·rw [top_ q hq];exact k1
     ·rw [top_ q hq];exact k3
   ·obtain rfl:=Option.some.inj (h3.symm.trans hx)
    obtain ⟨vs,e1,k1,k2,k3,k4⟩:=hI.obs q _ h2
    refine ⟨vs,e1,k1,k2.trans h4.symm,fun k c hc => ?_,k4⟩
    obtain ⟨u,hu,hr⟩:=h5 k c hc
    exact ⟨step0 _ _ _ hr (k3 k u hu).1,stepL _ _ hr (k3 k u hu).2⟩
 ·by_cases e1:q = o
  ·subst e1;exact (oo _ _ h2 h4).elim
  ·by_cases e2:q' = o
   ·subst e2;exact (oo _ _ h3 h5).elim
   ·obtain ⟨y,hy,hyb⟩:=ob_ q x h2 e1
    obtain ⟨y',hy',hyb'⟩:=ob_ q' x' h3 e2
    exact hI.inj q q' y y' b hy hy' (hyb.symm.trans h4) (hyb'.symm.trans h5)
 ·by_cases e1:q = o
  ·subst e1;exact (oo _ _ h2 h3).elim
  ·obtain ⟨y,hy,hyb⟩:=ob_ q x h2 e1
   exact hI.fresh q y b hy (hyb.symm.trans h3)
def renTo (n q:Nat) (x y:AV):Prop:=y = x∨(y = .own n∧x = .own q)
def relRe (n q:Nat) (a b:Option Ob):Prop:=b = a∨∃ cs cs',a = some (.box cs)∧b = some (.box cs')∧cs'.length = cs.length∧∀ (k:Nat) (c:AV),cs'[k]? = some c→∃ u,cs[k]? = some u∧renTo n q u c
theorem weak_ren {s s1:St} {n q:Nat} {z0:Bool} {e0:Nat} {sh0:List Sh} {rows0:List (List CV)} (hn:s.ob n = none) (hq0:s.ob q = some (.row z0 e0 sh0 rows0)) (hl:s1.sl.length = s.sl.length) (hs:∀ (t:Nat) (v:AV),s1.sl[t]? = some v→∃ u,s.sl[t]? = some u∧renTo n q u v)
  (h1:s1.ob n = some (.row z0 e0 sh0 rows0)) (h2:s1.ob q = some .gone) (ho:∀ o,o≠n→o≠q→relRe n q (s.ob o) (s1.ob o)):Weak s s1:=by
 intro T w0 gp obp g w a hI
 have hnq:n≠q:=fun h => by subst h;rw [hn] at hq0;cases hq0
 let g':Gh:=⟨g.blk,fun o => if o = n then g.top q else g.top o,g.G⟩
 have top_:∀ o,o≠n→g'.top o = g.top o:=fun o h => if_neg h
 have topn:g'.top n = g.top q:=if_pos rfl
 have hk:Keep g s.ob g' s1.ob:=fun o x hx => by
  have hon:o≠n:=fun h => by subst h;rw [hn] at hx;cases hx
  by_cases hoq:o = q
  ·subst hoq
   obtain rfl:=Option.some.inj (hq0.symm.trans hx)
   exact ⟨_,h2,fun _ h => (by cases h),fun _ _ _ _ h => (by cases h),fun _ h => (by cases h)⟩
  ·rcases ho o hon hoq with h | ⟨cs,cs',k2,k3,_,_⟩
   ·exact Keep.one (h.trans hx) rfl (top_ o hon)
   ·obtain rfl:=Option.some.inj (k2.symm.trans hx)
    exact ⟨_,k3,fun _ _ => ⟨⟨cs,rfl⟩,rfl⟩,fun z e sh rows h4 => (by cases h4),fun _ _ => ⟨cs',rfl⟩⟩
 have he:Ext w g.G w g'.G:=Ext.refl w g.G
 have own0:∀ v,Rep0 w g s.ob v (.own q)→Rep0 w g' s1.ob v (.own n):=fun v h => ⟨⟨_,h1⟩,fun _ _ _ _ _ => (h.2 _ _ _ _ hq0).trans topn.symm⟩
 have step0:∀ v x y,renTo n q x y→Rep0 w g s.ob v x→Rep0 w g' s1.ob v y:=fun v x y h hr => by
  rcases h with rfl | ⟨rfl,rfl⟩
  ·exact hr.keep he hk
  ·exact own0 v hr
 have stepL:∀ x y,renTo n q x y→Z1X x→Z1X y:=fun x y h hr => by
  rcases h with rfl | ⟨rfl,rfl⟩
  ·exact hr
  ·trivial
 have ob_:∀ o y b,s1.ob o = some y→obBlk g' o y = some b→∃ x,s.ob (if o = n then q else o) = some x∧obBlk g (if o = n then q else o) x = some b∧o≠q:=fun o y b hy hb => by
  have hoq:o≠q:=fun h => by
   subst h
   obtain rfl:=Option.some.inj (h2.symm.trans hy)
   simp [obBlk] at hb
  by_cases hon:o = n
  ·subst hon
   rw [if_pos rfl]
   obtain rfl:=Option.some.inj (h1.symm.trans hy)
   refine ⟨_,hq0,?_,hoq⟩
   simp only [obBlk,topn] at hb ⊢
   exact hb
  ·rw [if_neg hon]
   rcases ho o hon hoq with h | ⟨cs,cs',k2,k3,_,_⟩
   ·refine ⟨y,h.symm.trans hy,?_,hoq⟩
    rw [←hb]
    cases y with
    | gone => rfl
    | box cs => rfl
    | row z1 e1 sh1 rows1 => simp only [obBlk];rw [top_ o hon]
   ·obtain rfl:=Option.some.inj (k3.symm.trans hy)
    exact ⟨_,k2,hb,hoq⟩
 refine ⟨g',{ size:=hI.size.trans hl.symm,slots:=fun t v hv => ?_,defers:=hI.defers,obs:=fun o x hx => ?_,inj:=fun o o' x x' b k2 k3 k4 k5 => ?_,fresh:=fun o x b k2 k3 => ?_,grow:=hI.grow,old:=hI.old,gz:=hI.gz,par:=hI.par,keep:=hI.keep.trans hk,ext:=hI.ext,tb0:=hI.tb0,pnum:=hI.pnum }⟩
 ·obtain ⟨u,hu,hr⟩:=hs t v hv
  have hR:=hI.slots t u hu
  rcases hr with rfl | ⟨rfl,rfl⟩
  ·exact hR.keep he hk
  ·exact own0 _ hR
 ·by_cases hon:o = n
  ·subst hon
   obtain rfl:=Option.some.inj (h1.symm.trans hx)
   obtain ⟨cs,k1,k2,k3,k4⟩:=hI.obs q _ hq0
   refine ⟨cs,?_,k2,?_,k4⟩
   ·rw [topn];exact k1
   ·rw [topn];exact k3
  ·by_cases hoq:o = q
   ·subst hoq
    obtain rfl:=Option.some.inj (h2.symm.trans hx)
    trivial
   ·rcases ho o hon hoq with h | ⟨cs,cs',k2,k3,k4,k5⟩
    ·have hx':=h.symm.trans hx
     have hR:=hI.obs o x hx'
     cases x with
     | gone => trivial
     | box cs =>
      obtain ⟨vs,e1,k1,k2,k3,k4⟩:=hR
      exact ⟨vs,e1,k1,k2,fun k c hc => ⟨(k3 k c hc).1.keep he hk,(k3 k c hc).2⟩,k4⟩
     | row z1 e1 sh1 rows =>
      obtain ⟨cs,k1,k2,k3,k4⟩:=hR
      refine ⟨cs,?_,k2,?_,k4⟩
      ·rw [top_ o hon];exact k1
      ·rw [top_ o hon];exact k3
    ·obtain rfl:=Option.some.inj (k3.symm.trans hx)
     obtain ⟨vs,e1,m1,m2,m3,m4⟩:=hI.obs o _ k2
     refine ⟨vs,e1,m1,m2.trans k4.symm,fun k c hc => ?_,m4⟩
     obtain ⟨u,hu,hr⟩:=k5 k c hc
     exact ⟨step0 _ _ _ hr (m3 k u hu).1,stepL _ _ hr (m3 k u hu).2⟩
 ·obtain ⟨y,hy,hyb,e1⟩:=ob_ o x b k2 k4
  obtain ⟨y',hy',hyb',e2⟩:=ob_ o' x' b k3 k5
  have hE:=hI.inj _ _ y y' b hy hy' hyb hyb'
  by_cases a1:o = n
  ·by_cases a2:o' = n
   ·rw [a1,a2]
   ·rw [if_pos a1,if_neg a2] at hE;exact (e2 hE.symm).elim
  ·by_cases a2:o' = n
   ·rw [if_neg a1,if_pos a2] at hE;exact (e1 hE).elim
   ·rw [if_neg a1,if_neg a2] at hE;exact hE
 ·obtain ⟨y,hy,hyb,_⟩:=ob_ o x b k2 k3
  exact hI.fresh _ y b hy hyb
theorem weak_drop {s:St} {q:Nat} {z0:Bool} {e0:Nat} {sh0:List Sh} {rows0:List (List CV)} (hq0:s.ob q = some (.row z0 e0 sh0 rows0)):Weak s ⟨s.sl,fun p => if p = q then some .gone else s.ob p⟩:=by
 intro T w0 gp obp g w a hI
 have hk:Keep g s.ob g (fun p => if p = q then some .gone else s.ob p):=fun o x hx => by
  by_cases h:o = q
  ·subst h
   obtain rfl:=Option.some.inj (hq0.symm.trans hx)
   exact ⟨_,if_pos rfl,fun _ h => (by cases h),fun _ _ _ _ h => (by cases h),fun _ h => (by cases h)⟩
  ·exact Keep.one (ob':=fun p => if p = q then some .gone else s.ob p) ((if_neg h).trans hx) rfl rfl
 have he:Ext w g.G w g.G:=Ext.refl w g.G
 have ob_:∀ o y b,(if o = q then some .gone else s.ob o) = some y→obBlk g o y = some b→s.ob o = some y:=fun o y b hy hb => by
  by_cases h:o = q
  ·rw [if_pos h] at hy;obtain rfl:=Option.some.inj hy;simp [obBlk] at hb
  ·rwa [if_neg h] at hy
 refine ⟨g,{ size:=hI.size,slots:=fun t v hv => (hI.slots t v hv).keep he hk,defers:=hI.defers,obs:=fun o x hx => ?_,inj:=fun o o' x x' b k2 k3 k4 k5 => hI.inj o o' x x' b (ob_ o x b k2 k4) (ob_ o' x' b k3 k5) k4 k5,fresh:=fun o x b k2 k3 => hI.fresh o x b (ob_ o x b k2 k3) k3,grow:=hI.grow,old:=hI.old,gz:=hI.gz,par:=hI.par,keep:=hI.keep.trans hk,ext:=hI.ext,tb0:=hI.tb0,pnum:=hI.pnum }⟩
 by_cases h:o = q
 ·have hx:(if o = q then some Ob.gone else s.ob o) = some x:=hx
  rw [if_pos h] at hx
  obtain rfl:=Option.some.inj hx
  trivial
 ·have hx:(if o = q then some Ob.gone else s.ob o) = some x:=hx
  rw [if_neg h] at hx
  have hR:=hI.obs o x hx
  cases x with
  | gone => trivial
  | box cs =>
   obtain ⟨vs,e1,k1,k2,k3,k4⟩:=hR
   exact ⟨vs,e1,k1,k2,fun k c hc => ⟨(k3 k c hc).1.keep he hk,(k3 k c hc).2⟩,k4⟩
  | row z1 e1 sh1 rows => exact hR
def mintS (t o e:Nat) (s:St):St :=
 match s.sl.getD t .dead,s.ob o with
 | .nil sh,none => ⟨s.sl.set t (.own o),fun q => if q = o then some (.row false e sh []) else s.ob q⟩
 | .own q,none => if hasN [10000,10001,10002,10003,10004,10005,10006,10007] q then (match s.ob q with
  | some (.row z e sh rows) => ⟨s.sl.set t (.own o),fun p => if p = o then some (.row z e sh rows) else if p = q then some .gone else s.ob p⟩
  | _ => s) else s
 | _,_ => s
def mintB (b k o e:Nat) (s:St):St :=
 match s.ob b,s.ob o with
 | some (.box cs),none => match cs.getD k .dead with
  | .nil sh => ⟨s.sl,fun q => if q = o then some (.row false e sh []) else if q = b then some (.box (cs.set k (.own o))) else s.ob q⟩
  | .own q => if hasN [10000,10001,10002,10003,10004,10005,10006,10007] q then (match s.ob q with
   | some (.row z e sh rows) => ⟨s.sl,fun p => if p = o then some (.row z e sh rows) else if p = q then some .gone else if p = b then some (.box (cs.set k (.own o))) else s.ob p⟩
   | _ => s) else s
  | _ => s
 | some (.row _ _ _ _),_ => if hasN [10000,10001,10002,10003,10004,10005,10006,10007] b then ⟨s.sl,fun p => if p = b then some .gone else s.ob p⟩ else s
 | _,_ => s
theorem set_at {l:List AV} {t:Nat} {x y:AV} (h:l.getD t .dead = x) (k:Nat) (v:AV) (hv:(l.set t y)[k]? = some v):∃ u,l[k]? = some u∧(v = u∨(v = y∧u = x)):=by
 rw [List.getElem?_set] at hv
 split at hv
 ·rename_i e;subst e
  split at hv
  ·rename_i hlt
   obtain rfl:=Option.some.inj hv
   rw [List.getD_eq_getElem?_getD,List.getElem?_eq_getElem hlt] at h
   exact ⟨_,List.getElem?_eq_getElem hlt,.inr ⟨rfl,h⟩⟩
  ·cases hv
 ·exact ⟨v,hv,.inl rfl⟩
theorem set_nil {l:List AV} {t o:Nat} {sh:List Sh} (h:l.getD t .dead = .nil sh) (k:Nat) (v:AV) (hv:(l.set t (.own o))[k]? = some v):∃ u,l[k]? = some u∧nilTo o u v:=by
 obtain ⟨u,hu,hr⟩:=set_at h k v hv
 exact ⟨u,hu,hr.imp_right fun h => ⟨h.1,sh,h.2⟩⟩
theorem weak_mintS (t o e:Nat) (s:St):Weak s (mintS t o e s):=by
 unfold mintS
 split
 ·rename_i sh h1 h2
  refine weak_mint (o:=o) (e:=e) (sh:=sh) h2 (List.length_set ..) (set_nil h1) (if_pos rfl) (fun q hq => .inl (if_neg hq))
 ·rename_i q h1 h2
  split
  ·split
   ·rename_i z e' sh rows h3
    have hne:q≠o:=fun h => by subst h;rw [h2] at h3;cases h3
    exact weak_ren (n:=o) (q:=q) h2 h3 (List.length_set ..) (set_at h1) (if_pos rfl) ((if_neg hne).trans (if_pos rfl)) (fun p h4 h5 => .inl ((if_neg h4).trans (if_neg h5)))
   ·exact Weak.refl s
  ·exact Weak.refl s
 ·exact Weak.refl s
theorem weak_mintB (b k o e:Nat) (s:St):Weak s (mintB b k o e s):=by
 unfold mintB
 split
 ·rename_i cs h1 h2
  split
  ·rename_i sh h3
   refine weak_mint (o:=o) (e:=e) (sh:=sh) h2 rfl (fun t v h => ⟨v,h,.inl rfl⟩) (if_pos rfl) (fun q hq => ?_)
   show relOb o (s.ob q) (if q = o then _ else _)
   rw [if_neg hq]
   by_cases e1:q = b
   ·subst e1
    rw [if_pos rfl]
    exact .inr ⟨cs,_,h1,rfl,List.length_set ..,set_nil h3⟩
   ·rw [if_neg e1];exact .inl rfl
  ·rename_i q h4
   split
   ·split
    ·rename_i z e' sh rows h3
     have hne:q≠o:=fun h => by subst h;rw [h2] at h3;cases h3
     refine weak_ren (n:=o) (q:=q) h2 h3 rfl (fun t v h => ⟨v,h,.inl rfl⟩) (if_pos rfl) ((if_neg hne).trans (if_pos rfl)) (fun p h5 h6 => ?_)
     show relRe o q (s.ob p) (if p = o then _ else if p = q then _ else _)
     rw [if_neg h5,if_neg h6]
     by_cases e1:p = b
     ·subst e1
      rw [if_pos rfl]
      exact .inr ⟨cs,_,h1,rfl,List.length_set ..,set_at h4⟩
     ·rw [if_neg e1];exact .inl rfl
    ·exact Weak.refl s
   ·exact Weak.refl s
  ·exact Weak.refl s
 ·rename_i z0 e0 sh0 rows0 h1
  split
  ·exact weak_drop h1
  ·exact Weak.refl s
 ·exact Weak.refl s
structure Hp where
 live:List Nat
 boxes:List Nat
 ms:List (Nat×Nat)
 mb:List (Nat×Nat×Nat)
def preS:List (Nat×Nat)→St→St
 | [],s => s
 | (t,e)::r,s => preS r (mintS t (40000 + t) e s)
def preB:List (Nat×Nat×Nat)→St→St
 | [],s => s
 | (b,k,e)::r,s => preB r (mintB b k (700000 + b * 20 + k) e s)
theorem ZbN:∀ (l:List (Nat×Nat)) (s:St),Weak s (preS l s)
 | [],s => Weak.refl s
 | (t,e)::r,s => (weak_mintS t _ e s).trans (ZbN r _)
theorem Zba:∀ (l:List (Nat×Nat×Nat)) (s:St),Weak s (preB l s)
 | [],s => Weak.refl s
 | (b,k,e)::r,s => (weak_mintB b k _ e s).trans (Zba r _)
def rhoS (s:St):List (Nat×Nat)→List (Nat×Nat)
 | [] => []
 | (t,_)::r => match s.sl.getD t .dead with
  | .own q => (20000 + t,q)::rhoS s r
  | _ => rhoS s r
def rhoB (s:St):List (Nat×Nat×Nat)→List (Nat×Nat)
 | [] => []
 | (b,k,_)::r => match s.ob b with
  | some (.box cs) => match cs.getD k .dead with
   | .own q => (400000 + b * 20 + k,q)::rhoB s r
   | _ => rhoB s r
  | _ => rhoB s r
def dup:List Nat→List (Nat×Nat)
 | [] => []
 | b::r => (b,b)::dup r
def app2:List (Nat×Nat)→List (Nat×Nat)→List (Nat×Nat)
 | [],l => l
 | x::r,l => x::app2 r l
def Hp.pre (h:Hp) (s:St):St:=preB h.mb (preS h.ms s)
def Hp.rho (h:Hp) (s:St):List (Nat×Nat):=app2 (dup h.boxes) (app2 (rhoS s h.ms) (rhoB s h.mb))
def Hp.ok (h:Hp) (n:Nat) (s:St):Bool:=Nat.beq s.sl.length n && Z6K ((pars (h.rho s)).map (·.1)) && Z6K ((pars (h.rho s)).map (·.2))
def Hp.L (h:Hp) (s:St):List (Nat×AV):=lv h.live (h.rho s) s
def Hp.O (h:Hp) (s:St):List (Nat×Ob):=obsOf (h.rho s) s
theorem head_ {s:St} (h:Hp) {I:St→Prop} {n:Nat} {L:List (Nat×AV)} {O:List (Nat×Ob)} (hI:I (At n L O)) (hok:h.ok n (h.pre s) = true) (hL:h.L (h.pre s) = L) (hO:h.O (h.pre s) = O):∃ t,Weak s t∧I t:=by
 simp only [Hp.ok,Bool.and_eq_true] at hok
 obtain ⟨⟨h0,h1⟩,h2⟩:=hok
 subst hL;subst hO
 exact ⟨_,((ZbN _ _).trans (Zba _ _)).trans (weak_at h.live (h.rho (h.pre s)) (h.pre s) (Nat.eq_of_beq_eq_true h0) h1 h2),hI⟩
theorem end_ {s:St} (h:Hp) {tab:Tr} {rs:List ResultVar} {ids:List Nat} {io:Nat} {X:AV×List Ob×List Ob} {e:Ex} {Q:Ex→St→Prop} (n:Nat) (hq:∀ s t,Weak s t→fin tab rs ids io t = some X→Q e s) (hok:h.ok n (h.pre s) = true) (hf:fin tab rs ids io (At n (h.L (h.pre s)) (h.O (h.pre s))) = some X):Q e s:=by
 simp only [Hp.ok,Bool.and_eq_true] at hok
 obtain ⟨⟨h0,h1⟩,h2⟩:=hok
 exact hq s _ (((ZbN _ _).trans (Zba _ _)).trans (weak_at h.live (h.rho (h.pre s)) (h.pre s) (Nat.eq_of_beq_eq_true h0) h1 h2)) hf
end Go.Ev
namespace Go.Ev
open Go.RowKit
variable {P:Program} {T:TBs}
theorem Z7W (q:Nat):obIn [] q = none:=by unfold obIn;split <;> simp
theorem obOut_nil (q:Nat):obOut [] [] q = none:=by unfold obOut;split <;> simp
theorem ext_below {w w':World} {G:Nat→Nat} (hgz:∀ b,w.heap.size≤b→G b = 0) (hb:Below w.heap.size w w'):Ext w G w' G:=fun b p hp => ⟨hp,by
 have hlt:b < w.heap.size:=by
  rcases Nat.lt_or_ge b w.heap.size with h | h
  ·exact h
  ·rw [hgz b h] at hp;omega
 unfold World.cell?
 rw [hb.block b hlt]⟩
def Z3T:CV→Bool
 | .int .. | .bool _ | .str _ => true
 | _ => false
theorem vals_eq {w:World} {gp:Gh} {ob:Nat→Option Ob}:∀ {as:List CV} {vs:List Value},vs.length = (as.map AV.c).length→(∀ c∈as,Z3T c = true)→(∀ k c,(as.map AV.c)[k]? = some c→Rep1 w gp ob (vs.getD k undef) c)→vs = as.map valOf
 | [],[],_,_,_ => rfl
 | [],_::_,h,_,_ => by simp at h
 | _::_,[],h,_,_ => by simp at h
 | a::as,v::vs,hl,hf,hr => by
  have h0:v = valOf a:=Z9x (hr 0 (.c a) rfl) (fun s r e => by have:=hf a List.mem_cons_self;rw [e] at this;cases this) (fun f e => by have:=hf a List.mem_cons_self;rw [e] at this;cases this)
  have h1:=vals_eq (w:=w) (gp:=gp) (ob:=ob) (as:=as) (vs:=vs) (by simpa using hl) (fun c hc => hf c (List.mem_cons_of_mem _ hc)) (fun k c hk => hr (k + 1) c hk)
  rw [h0,h1];rfl
theorem Zdv {f:FuncId} (hf:Z76 P f) (as:List CV) (ha:as.all Z3T = true) (r:AV)
  (h:∀ (w:World) (G:Nat→Nat),T.T w G→Calls P f (as.map valOf).toArray w fun e w' => ∃ v,e = .returned v∧(∀ g ob,Rep w' g ob v r)∧Below w.heap.size w w'):Con P T f (as.map .c) [] r [] []:=by
 refine ⟨hf,fun w gp vs hgz htb hlen hobs hinj hargs => ?_⟩
 obtain rfl:=vals_eq hlen (fun c hc => List.all_eq_true.1 ha c hc) hargs
 refine (h w gp.G htb).mono ?_
 rintro e w' ⟨v,rfl,hr,hb⟩
 refine ⟨v,gp,rfl,{ grow:=⟨hb.os,hb.tape,hb.output,hb.size,fun k hk _ => hb.block k hk⟩,old:=fun _ _ _ => rfl,gz:=fun b hb' => hgz b (Nat.le_trans hb.size hb'),val:=hr _ _,obs:=fun o x ho => ?_,inj:=fun o o' x x' b ho => ?_,fresh:=fun o x b ho => ?_,keep:=fun o x ho => ?_,ext:=ext_below hgz hb }⟩
 all_goals first | (rw [obOut_nil] at ho;cases ho) | (rw [Z7W] at ho;cases ho)
def Z31 (rows:List (List CV)):List Value:=rows.flatMap fun r => r.map valOf
theorem cellsV_at {n:Nat}:∀ {rows:List (List CV)},(∀ r∈rows,r.length = n)→∀ j row k cv,rows[j]? = some row→row[k]? = some cv→(Z31 rows)[j * n + k]? = some (valOf cv)
 | [],_,j,_,_,_,hj,_ => by simp at hj
 | r::rs,h,0,row,k,cv,hj,hk => by
  obtain rfl:r = row:=by simpa using hj
  have hkl:=(List.getElem?_eq_some_iff.1 hk).1
  simp only [Z31,List.flatMap_cons,Nat.zero_mul,Nat.zero_add]
  rw [List.getElem?_append_left (by simpa using hkl),List.getElem?_map,hk];rfl
 | r::rs,h,j + 1,row,k,cv,hj,hk => by
  have h0:=cellsV_at (rows:=rs) (fun x hx => h x (List.mem_cons_of_mem _ hx)) j row k cv (by simpa using hj) hk
  have hr:=h r List.mem_cons_self
  simp only [Z31,List.flatMap_cons] at h0 ⊢
  rw [List.getElem?_append_right (by simp [hr,Nat.add_mul];omega)]
  rw [←h0];congr 1;simp [hr,Nat.add_mul];omega
theorem cellsV_eq {n:Nat}:∀ {rows:List (List CV)} {cs:List Value},(∀ r∈rows,r.length = n)→cs.length = rows.length * n→(∀ j row k cv,rows[j]? = some row→row[k]? = some cv→cs[j * n + k]? = some (valOf cv))→cs = Z31 rows
 | [],cs,_,hl,_ => by
  have:cs.length = 0:=by simpa using hl
  simpa [Z31] using List.length_eq_zero_iff.1 this
 | r::rs,cs,h,hl,hc => by
  have hr:=h r List.mem_cons_self
  have hl':cs.length = rs.length * n + n:=by rw [hl,List.length_cons,Nat.add_mul,Nat.one_mul]
  have h1:cs.take n = r.map valOf:=by
   apply List.ext_getElem?
   intro k
   rcases Nat.lt_or_ge k n with hk | hk
   ·have hk':k < r.length:=by omega
    have:=hc 0 r k r[k] rfl (List.getElem?_eq_getElem hk')
    rw [Nat.zero_mul,Nat.zero_add] at this
    rw [List.getElem?_take_of_lt hk,this,List.getElem?_map,List.getElem?_eq_getElem hk'];rfl
   ·rw [List.getElem?_eq_none (by simp;omega),List.getElem?_eq_none (by simp;omega)]
  have h2:=cellsV_eq (n:=n) (rows:=rs) (cs:=cs.drop n) (fun x hx => h x (List.mem_cons_of_mem _ hx)) (by rw [List.length_drop];omega) (fun j row k cv hj hk => by
   rw [List.getElem?_drop]
   have:=hc (j + 1) row k cv (by simpa using hj) hk
   rw [←this];congr 1;rw [Nat.add_mul,Nat.one_mul];omega)
  rw [←List.take_append_drop n cs,h1,h2];rfl
theorem sc_repC {w:World} {G:Nat→Nat} {c:CV} (h:Z3T c = true):RepC w G (valOf c) c:=by
 cases c <;> first | (cases h;done) | constructor
theorem repC_sc {w:World} {G:Nat→Nat} {v:Value} {c:CV} (hc:Z3T c = true) (h:RepC w G v c):v = valOf c :=
 Z9x h (fun s r e => by rw [e] at hc;cases hc) (fun f e => by rw [e] at hc;cases hc)
theorem ZdW {w:World} {g:Gh} {ob:Nat→Option Ob} {o:Nat} {z:Bool} {e:Nat} {sh:List Sh} {rows:List (List CV)} (hf:∀ r∈rows,r.all Z3T = true) (h:RepOb w g ob o (.row z e sh rows)):w.ownsRow 0 e sh.length (g.top o) rows.length (Z31 rows):=by
 obtain ⟨cs,h1,h2,_,h4⟩:=h
 have:cs = Z31 rows:=cellsV_eq (n:=sh.length) (fun r hr => by rw [←h2 r hr,List.length_map]) h1.1 (fun j row k cv hj hk => by
  obtain ⟨v,hv,hr⟩:=h4 j row k cv hj hk
  rw [hv,repC_sc (List.all_eq_true.1 (hf row (List.mem_of_getElem? hj)) cv (List.mem_of_getElem? hk)) hr])
 rwa [←this]
theorem ZaA {w:World} {g:Gh} {ob:Nat→Option Ob} {o:Nat} {z:Bool} {e:Nat} {sh:List Sh} {rows:List (List CV)} (hf:∀ r∈rows,r.all Z3T = true) (hsh:∀ r∈rows,r.map CV.sh = sh) (h:w.ownsRow 0 e sh.length (g.top o) rows.length (Z31 rows))
  (hg:∀ b,(g.top o).ownBlock = some b→g.G b = if z then rows.length * sh.length else 0):RepOb w g ob o (.row z e sh rows) :=
 ⟨_,h,hsh,hg,fun j row k cv hj hk => ⟨_,cellsV_at (n:=sh.length) (fun r hr => by rw [←hsh r hr,List.length_map]) j row k cv hj hk,sc_repC (List.all_eq_true.1 (hf row (List.mem_of_getElem? hj)) cv (List.mem_of_getElem? hk))⟩⟩
theorem con_take {f:FuncId} (hf:Z76 P f) (as:List CV) (ha:as.all Z3T = true) (e:Nat) (sh:List Sh) (rows rows':List (List CV)) (hr:∀ r∈rows,r.all Z3T = true) (hr':∀ r∈rows',r.all Z3T = true) (hsh':∀ r∈rows',r.map CV.sh = sh)
  (h:∀ (w:World) (v:Value),w.ownsRow 0 e sh.length v rows.length (Z31 rows)→Calls P f (v::as.map valOf).toArray w fun e' w' => ∃ v',e' = .returned v'∧w'.ownsRow 0 e sh.length v' rows'.length (Z31 rows')∧w.grownBy w' v.ownBlock∧(v'.ownBlock = v.ownBlock∨∃ b,v'.ownBlock = some b∧w.heap.size≤b)) :
  Con P T f (.own 10000::as.map .c) [.row false e sh rows] (.own 0) [.row false e sh rows'] [.gone]:=by
 refine ⟨hf,fun w gp vs hgz htb hlen hobs hinj hargs => ?_⟩
 obtain ⟨v,vs,rfl⟩:∃ v l,vs = v::l:=by
  cases vs with
  | nil => simp at hlen
  | cons v l => exact ⟨v,l,rfl⟩
 have h0:obIn [Ob.row false e sh rows] 10000 = some (.row false e sh rows):=rfl
 have hv:v = gp.top 10000:=(hargs 0 (.own 10000) rfl).2 _ _ _ _ h0
 obtain rfl:=vals_eq (as:=as) (vs:=vs) (by simpa using hlen) (fun c hc => List.all_eq_true.1 ha c hc) (fun k c hk => hargs (k + 1) c hk)
 have hrow:=hobs 10000 _ h0
 have hown:=ZdW hr hrow
 obtain ⟨_,_,_,hG,_⟩:=hrow
 rw [←hv] at hown hG
 refine (h w v hown).mono ?_
 rintro e' w' ⟨v',rfl,ho',hg,hb'⟩
 have hB:∀ b,some b = v.ownBlock→Bk gp (obIn [Ob.row false e sh rows]) b:=fun b hb => ⟨10000,_,h0,by simp only [obBlk];rw [←hv];exact hb.symm⟩
 have hG0:∀ b,v.ownBlock = some b→gp.G b = 0:=fun b hb => by have:=hG b hb;simpa using this
 have hcell:Ext w gp.G w' gp.G:=fun b p hp => ⟨hp,by
  have hlt:b < w.heap.size:=by
   rcases Nat.lt_or_ge b w.heap.size with h | h
   ·exact h
   ·rw [hgz b h] at hp;omega
  have hne:some b≠v.ownBlock:=fun h => by rw [hG0 b h.symm] at hp;omega
  unfold World.cell?
  rw [hg.block b hlt hne]⟩
 have hblk':∀ b,v'.ownBlock = some b→gp.G b = 0:=fun b hb => by
  rcases hb' with h1 | ⟨b1,h1,h2⟩
  ·exact hG0 b (h1 ▸ hb)
  ·rw [h1] at hb;obtain rfl:=Option.some.inj hb;exact hgz _ h2
 have o0:obOut [Ob.row false e sh rows'] [Ob.gone] 0 = some (.row false e sh rows'):=rfl
 have oo:∀ o x b,obOut [Ob.row false e sh rows'] [Ob.gone] o = some x→obBlk ⟨gp.blk,fun _ => v',gp.G⟩ o x = some b→o = 0∧x = .row false e sh rows':=fun o x b hx hb => by
  unfold obOut at hx
  split at hx
  ·cases o with
   | zero => exact ⟨rfl,(Option.some.inj hx).symm⟩
   | succ o => simp at hx
  ·rename_i hlt
   cases hm:o - 10000 with
   | zero => rw [hm] at hx;obtain rfl:=Option.some.inj hx;simp [obBlk] at hb
   | succ k => rw [hm] at hx;simp at hx
 refine ⟨v',⟨gp.blk,fun _ => v',gp.G⟩,rfl,{ grow:=(Grown.refl w _).trans (Grown.of hg) (fun b hb => .inl (hB b hb)),old:=fun _ _ _ => rfl,gz:=fun b hb => hgz b (Nat.le_trans hg.size hb),val:=⟨⟨_,o0⟩,fun _ _ _ _ _ => rfl⟩,obs:=fun o x hx => ?_,inj:=fun o o' x x' b h1 h2 h3 h4 => ?_,fresh:=fun o x b h1 h2 => ?_,keep:=fun o x ho => ?_,ext:=hcell }⟩
 ·unfold obOut at hx
  split at hx
  ·cases o with
   | zero =>
    obtain rfl:=Option.some.inj hx
    exact ZaA hr' hsh' ho' (fun b hb => by rw [hblk' b hb];rfl)
   | succ o => simp at hx
  ·cases hm:o - 10000 with
   | zero => rw [hm] at hx;obtain rfl:=Option.some.inj hx;trivial
   | succ k => rw [hm] at hx;simp at hx
 ·rw [(oo o x b h1 h3).1,(oo o' x' b h2 h4).1]
 ·obtain ⟨rfl,rfl⟩:=oo o x b h1 h2
  rcases hb' with h3 | ⟨b1,h3,h4⟩
  ·exact .inl (hB b (by rw [←h3];exact h2.symm))
  ·have:v'.ownBlock = some b:=h2
   rw [h3] at this;obtain rfl:=Option.some.inj this
   exact .inr h4
 ·unfold obIn at ho
  split at ho
  ·cases ho
  ·cases hm:o - 10000 with
   | zero =>
    rw [hm] at ho;obtain rfl:=Option.some.inj ho
    obtain rfl:o = 10000:=by omega
    exact ⟨.gone,rfl,fun _ h => (by cases h),fun _ _ _ _ h => (by cases h),fun _ h => (by cases h)⟩
   | succ k => rw [hm] at ho;simp at ho
theorem own_keep {w w':World} {base:Nat} {e:TypeId} {size n:Nat} {v:Value} {xs:List Value} (h:w.ownsRow base e size v n xs) (hm:∀ k,v.ownBlock = some k→w'.heap[k]? = w.heap[k]?):w'.ownsRow base e size v n xs:=by
 obtain ⟨h1,h2⟩:=h
 refine ⟨h1,?_⟩
 rcases h2 with h2 | ⟨g,cap,cur,rfl,hg,hh,r⟩
 ·exact .inl h2
 ·exact .inr ⟨g,cap,cur,rfl,hg,(hm g rfl).trans hh,r⟩
theorem con_put {f:FuncId} (hf:Z76 P f) (i:CV) (hi:Z3T i = true) (e e2:Nat) (sh sh2:List Sh) (rows rows' rows2:List (List CV)) (hr:∀ r∈rows,r.all Z3T = true) (hr':∀ r∈rows',r.all Z3T = true) (hr2:∀ r∈rows2,r.all Z3T = true) (hsh':∀ r∈rows',r.map CV.sh = sh)
  (h:∀ (w:World) (v u:Value),w.ownsRow 0 e sh.length v rows.length (Z31 rows)→w.ownsRow 0 e2 sh2.length u rows2.length (Z31 rows2)→(∀ b,u.ownBlock = some b→some b≠v.ownBlock) →
   Calls P f #[v,valOf i,u] w fun e' w' => ∃ v',e' = .returned v'∧w'.ownsRow 0 e sh.length v' rows'.length (Z31 rows')∧w.grownBy w' v.ownBlock∧(v'.ownBlock = v.ownBlock∨∃ b,v'.ownBlock = some b∧w.heap.size≤b)) :
  Con P T f [.own 10000,.c i,.own 10001] [.row false e sh rows,.row false e2 sh2 rows2] (.own 0) [.row false e sh rows'] [.gone,.row false e2 sh2 rows2]:=by
 refine ⟨hf,fun w gp vs hgz htb hlen hobs hinj hargs => ?_⟩
 obtain ⟨v,vi,u,rfl⟩:∃ v vi u,vs = [v,vi,u]:=by
  match vs,hlen with
  | [v,vi,u],_ => exact ⟨v,vi,u,rfl⟩
 let ins:List Ob:=[.row false e sh rows,.row false e2 sh2 rows2]
 let outs:List Ob:=[.gone,.row false e2 sh2 rows2]
 let news:List Ob:=[.row false e sh rows']
 have h0:obIn ins 10000 = some (.row false e sh rows):=rfl
 have h1:obIn ins 10001 = some (.row false e2 sh2 rows2):=rfl
 have hv:v = gp.top 10000:=(hargs 0 (.own 10000) rfl).2 _ _ _ _ h0
 have hu:u = gp.top 10001:=(hargs 2 (.own 10001) rfl).2 _ _ _ _ h1
 have hvi:vi = valOf i:=repC_sc hi (hargs 1 (.c i) rfl)
 subst hvi
 have hrow:=hobs 10000 _ h0
 have hrow2:=hobs 10001 _ h1
 have hown:=ZdW hr hrow
 have hown2:=ZdW hr2 hrow2
 have hG:=hrow.choose_spec.2.2.1
 have hG2:=hrow2.choose_spec.2.2.1
 obtain ⟨_,_,hsh2,_,_⟩:=hrow2
 rw [←hv] at hown hG
 rw [←hu] at hown2 hG2
 have hne:∀ b,u.ownBlock = some b→some b≠v.ownBlock:=fun b hb hc => by
  have:=hinj 10000 10001 _ _ b h0 h1 (by simp only [obBlk];rw [←hv];exact hc.symm) (by simp only [obBlk];rw [←hu];exact hb)
  omega
 refine (h w v u hown hown2 hne).mono ?_
 rintro e' w' ⟨v',rfl,ho',hg,hb'⟩
 have hB:∀ b,some b = v.ownBlock→Bk gp (obIn ins) b:=fun b hb => ⟨10000,_,h0,by simp only [obBlk];rw [←hv];exact hb.symm⟩
 have hB2:∀ b,some b = u.ownBlock→Bk gp (obIn ins) b:=fun b hb => ⟨10001,_,h1,by simp only [obBlk];rw [←hu];exact hb.symm⟩
 have hG0:∀ b,v.ownBlock = some b→gp.G b = 0:=fun b hb => by have:=hG b hb;simpa using this
 have hG20:∀ b,u.ownBlock = some b→gp.G b = 0:=fun b hb => by have:=hG2 b hb;simpa using this
 have hult:∀ b,u.ownBlock = some b→b < w.heap.size:=fun b hb => own_lt hown2 hb
 have hcell:Ext w gp.G w' gp.G:=fun b p hp => ⟨hp,by
  have hlt:b < w.heap.size:=by
   rcases Nat.lt_or_ge b w.heap.size with h | h
   ·exact h
   ·rw [hgz b h] at hp;omega
  have hne:some b≠v.ownBlock:=fun h => by rw [hG0 b h.symm] at hp;omega
  unfold World.cell?
  rw [hg.block b hlt hne]⟩
 have hblk':∀ b,v'.ownBlock = some b→gp.G b = 0:=fun b hb => by
  rcases hb' with h1 | ⟨b1,h1,h2⟩
  ·exact hG0 b (h1 ▸ hb)
  ·rw [h1] at hb;obtain rfl:=Option.some.inj hb;exact hgz _ h2
 let g':Gh:=⟨gp.blk,fun q => if q = 0 then v' else gp.top q,gp.G⟩
 have o0:obOut news outs 0 = some (.row false e sh rows'):=rfl
 have oo:∀ o x,obOut news outs o = some x→(o = 0∧x = .row false e sh rows')∨(o = 10000∧x = .gone)∨(o = 10001∧x = .row false e2 sh2 rows2):=fun o x hx => by
  unfold obOut at hx
  split at hx
  ·cases o with
   | zero => exact .inl ⟨rfl,(Option.some.inj hx).symm⟩
   | succ o => simp [news] at hx
  ·rename_i hlt
   match hm:o - 10000 with
   | 0 => rw [hm] at hx;exact .inr (.inl ⟨by omega,(Option.some.inj hx).symm⟩)
   | 1 => rw [hm] at hx;exact .inr (.inr ⟨by omega,(Option.some.inj hx).symm⟩)
   | k + 2 => rw [hm] at hx;simp [outs] at hx
 have blk0:∀ b,obBlk g' 0 (.row false e sh rows') = some b→v'.ownBlock = some b:=fun b hb => hb
 have blk1:∀ b,obBlk g' 10001 (.row false e2 sh2 rows2) = some b→u.ownBlock = some b:=fun b hb => by rw [hu];exact hb
 have apart:∀ b,v'.ownBlock = some b→u.ownBlock = some b→False:=fun b hb hc => by
  rcases hb' with h3 | ⟨b1,h3,h4⟩
  ·exact hne b hc (by rw [←h3];exact hb.symm)
  ·rw [h3] at hb;obtain rfl:=Option.some.inj hb;have:=hult _ hc;omega
 refine ⟨v',g',rfl,{ grow:=(Grown.refl w _).trans (Grown.of hg) (fun b hb => .inl (hB b hb)),old:=fun _ _ _ => rfl,gz:=fun b hb => hgz b (Nat.le_trans hg.size hb),val:=⟨⟨_,o0⟩,fun _ _ _ _ _ => rfl⟩,obs:=fun o x hx => ?_,inj:=fun o o' x x' b k1 k2 k3 k4 => ?_,fresh:=fun o x b k1 k2 => ?_,keep:=fun o x ho => ?_,ext:=hcell }⟩
 ·rcases oo o x hx with ⟨rfl,rfl⟩ | ⟨rfl,rfl⟩ | ⟨rfl,rfl⟩
  ·exact ZaA hr' hsh' ho' (fun b hb => by rw [show g'.G b = 0 from hblk' b hb];rfl)
  ·trivial
  ·refine ZaA hr2 hsh2 ?_ (fun b hb => ?_)
   ·show w'.ownsRow 0 e2 sh2.length (gp.top 10001) _ _
    rw [←hu]
    exact own_keep hown2 (fun k hk => hg.block k (hult k hk) (hne k hk))
   ·have hb:u.ownBlock = some b:=by rw [hu];exact hb
    rw [show g'.G b = 0 from hG20 b hb];rfl
 ·rcases oo o x k1 with ⟨rfl,rfl⟩ | ⟨rfl,rfl⟩ | ⟨rfl,rfl⟩ <;> rcases oo o' x' k2 with ⟨rfl,rfl⟩ | ⟨rfl,rfl⟩ | ⟨rfl,rfl⟩ <;> first | rfl | (simp [obBlk] at k3;done) | (simp [obBlk] at k4;done) | exact (apart b (blk0 b k3) (blk1 b k4)).elim | exact (apart b (blk0 b k4) (blk1 b k3)).elim
 ·rcases oo o x k1 with ⟨rfl,rfl⟩ | ⟨rfl,rfl⟩ | ⟨rfl,rfl⟩
  ·have k2:=blk0 b k2
   rcases hb' with h3 | ⟨b1,h3,h4⟩
   ·exact .inl (hB b (by rw [←h3];exact k2.symm))
   ·rw [h3] at k2;obtain rfl:=Option.some.inj k2;exact .inr h4
  ·simp [obBlk] at k2
  ·exact .inl (hB2 b (blk1 b k2).symm)
 ·unfold obIn at ho
  split at ho
  ·cases ho
  ·match hm:o - 10000 with
   | 0 =>
    rw [hm] at ho;obtain rfl:=Option.some.inj ho
    obtain rfl:o = 10000:=by omega
    exact ⟨.gone,rfl,fun _ h => (by cases h),fun _ _ _ _ h => (by cases h),fun _ h => (by cases h)⟩
   | 1 =>
    rw [hm] at ho;obtain rfl:=Option.some.inj ho
    obtain rfl:o = 10001:=by omega
    exact Keep.one rfl rfl rfl
   | k + 2 => rw [hm] at ho;simp at ho
def full (w:World) (b:Nat):Nat:=match w.heap[b]? with
 | some (.cells c _ _) => c.size + 1
 | _ => 0
theorem full_gz (w:World) (b:Nat) (h:w.heap.size≤b):full w b = 0:=by unfold full;rw [Array.getElem?_eq_none h]
def TabG (P:Program) (w:World) (G:Nat→Nat) (name:String) (cs:Array Value):Prop :=
 ∃ g,P.globalNamed name = some g∧∀ p,p≤cs.size→p < G g∧w.cell? ⟨g,p,none⟩ = cs[p]?
theorem TabG.ext {w w':World} {G G':Nat→Nat} {name:String} {cs:Array Value} (he:Ext w G w' G') (h:TabG P w G name cs):TabG P w' G' name cs:=by
 obtain ⟨g,h1,h2⟩:=h
 exact ⟨g,h1,fun p hp => ⟨(he g p (h2 p hp).1).1,(he g p (h2 p hp).1).2.trans (h2 p hp).2⟩⟩
theorem TabG.is {w:World} {G:Nat→Nat} {name:String} {cs:Array Value} (h:TabG P w G name cs) (h0:0 < cs.size):w.var? P name = some cs:=by
 obtain ⟨g,h1,h2⟩:=h
 have c0:=(h2 0 (Nat.zero_le _)).2
 unfold World.var?
 rw [h1,Option.bind_some]
 unfold World.cell? at c0 h2
 rw [Array.getElem?_eq_getElem h0] at c0
 split at c0
 ·rename_i c e q hc
  simp only [hc,Option.isSome_none,Bool.false_eq_true,if_false] at h2 ⊢
  congr 1
  apply Array.ext_getElem?
  intro i
  rcases Nat.lt_or_ge cs.size i with hi | hi
  ·have hl:=(h2 cs.size (Nat.le_refl _)).2
   rw [Array.getElem?_eq_none (Nat.le_refl _)] at hl
   have:c.size≤cs.size:=by
    rcases Nat.lt_or_ge cs.size c.size with h | h
    ·rw [Array.getElem?_eq_getElem h] at hl;cases hl
    ·exact h
   rw [Array.getElem?_eq_none (by omega),Array.getElem?_eq_none (by omega)]
  ·exact (h2 i hi).2
 ·cases c0
theorem TabG.of {w:World} {name:String} {cs:Array Value} (h:w.var? P name = some cs):TabG P w (full w) name cs:=by
 unfold World.var? at h
 cases hg:P.globalNamed name with
 | none => rw [hg] at h;cases h
 | some g =>
  rw [hg,Option.bind_some] at h
  split at h
  ·rename_i c e q hc
   obtain rfl:=Option.some.inj h
   refine ⟨g,hg,fun p hp => ⟨?_,?_⟩⟩
   ·unfold full;rw [hc];exact Nat.lt_succ_of_le hp
   ·unfold World.cell?;simp only [hc,Option.isSome_none,Bool.false_eq_true,if_false]
  ·cases h
theorem con_fresh {f:FuncId} (hf:Z76 P f) (as:List AV) (e:Nat) (sh:List Sh) (rows':List (List CV)) (hr':∀ r∈rows',r.all Z3T = true) (hsh':∀ r∈rows',r.map CV.sh = sh)
  (h:∀ (w:World) (gp:Gh) (vs:List Value),T.T w gp.G→vs.length = as.length→(∀ k c,as[k]? = some c→Rep1 w gp (obIn []) (vs.getD k undef) c)→Calls P f vs.toArray w fun e' w' => ∃ v',e' = .returned v'∧w'.ownsRow w.heap.size e sh.length v' rows'.length (Z31 rows')∧Below w.heap.size w w') :
  Con P T f as [] (.own 0) [.row false e sh rows'] []:=by
 refine ⟨hf,fun w gp vs hgz htb hlen hobs hinj hargs => ?_⟩
 refine (h w gp vs htb hlen hargs).mono ?_
 rintro e' w' ⟨v',rfl,ho,hb⟩
 have hbase:∀ b,v'.ownBlock = some b→w.heap.size≤b:=fun b hb => by
  rcases ho.2 with ⟨h2,_⟩ | ⟨q,cap,cur,h2,h3,_⟩
  ·rw [h2] at hb;simp [Value.ownBlock] at hb
  ·rw [h2] at hb;simp only [Value.ownBlock,Option.some.injEq] at hb;omega
 have ho0:w'.ownsRow 0 e sh.length v' rows'.length (Z31 rows'):=⟨ho.1,ho.2.imp_right fun ⟨q,cap,cur,h2,_,r⟩ => ⟨q,cap,cur,h2,Nat.zero_le _,r⟩⟩
 have o0:obOut [Ob.row false e sh rows'] [] 0 = some (.row false e sh rows'):=rfl
 have oo:∀ o x,obOut [Ob.row false e sh rows'] [] o = some x→o = 0∧x = .row false e sh rows':=fun o x hx => by
  unfold obOut at hx
  split at hx
  ·cases o with
   | zero => exact ⟨rfl,(Option.some.inj hx).symm⟩
   | succ o => simp at hx
  ·simp at hx
 refine ⟨v',⟨gp.blk,fun _ => v',gp.G⟩,rfl,{ grow:=⟨hb.os,hb.tape,hb.output,hb.size,fun k hk _ => hb.block k hk⟩,old:=fun _ _ _ => rfl,gz:=fun b hb' => hgz b (Nat.le_trans hb.size hb'),val:=⟨⟨_,o0⟩,fun _ _ _ _ _ => rfl⟩,obs:=fun o x hx => ?_,inj:=fun o o' x x' b h1 h2 _ _ => by rw [(oo o x h1).1,(oo o' x' h2).1],fresh:=fun o x b h1 h2 => ?_,keep:=fun o x ho => ?_,ext:=ext_below hgz hb }⟩
 ·obtain ⟨rfl,rfl⟩:=oo o x hx
  exact ZaA hr' hsh' ho0 (fun b hb => by rw [show gp.G b = 0 from hgz b (hbase b hb)];rfl)
 ·obtain ⟨rfl,rfl⟩:=oo o x h1
  exact .inr (hbase b h2)
 ·rw [Z7W] at ho;cases ho
end Go.Ev
