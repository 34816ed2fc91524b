/- Plain lists, numbers and bytes. No conditions but those that each statement names. By this repo's programs; comments are taken out. -/
import Derived.Test.YtlmicldpfnmeaaaGreatDoorVFnComesBackW
set_option linter.all false
namespace Go.Ep
open Go.RowKit Go.Proofs.YtlmicldpfnmeaaaGreatDoorW.PrintWords
theorem Z9 {n:Int} (h0:-9223372036854775808≤n) (h1:n≤9223372036854775807):wrap64 n = n:=by
 unfold wrap64;omega
theorem Z5 {n:Nat} (h:n≤9223372036854775806):wrap64 ((n:Int) + 1) = ((n + 1:Nat):Int):=by
 unfold wrap64;omega
theorem Z2J {n:Nat} (h:n≤9223372036854775806):wrap64 (((n + 1:Nat):Int) - 1) = (n:Int):=by
 unfold wrap64;omega
theorem Ev.pos {α:Type} {c:Prop} [Decidable c] {f g:Nat→Option α} {r:α} (h:c) (k:Ev f r):Ev (fun n => if c then f n else g n) r:=by
 simp only [if_pos h];exact k
theorem Ev.neg {α:Type} {c:Prop} [Decidable c] {f g:Nat→Option α} {r:α} (h:¬ c) (k:Ev g r):Ev (fun n => if c then f n else g n) r:=by
 simp only [if_neg h];exact k
theorem Ev.ite {α:Type} {c:Prop} [Decidable c] {f g:Nat→Option α} {r:α} (h:c→Ev f r) (k:¬ c→Ev g r):Ev (fun n => if c then f n else g n) r:=by
 by_cases hc:c
 ·exact Ev.pos hc (h hc)
 ·exact Ev.neg hc (k hc)
theorem Ev.call {α β:Type} {o:Option α} {f:Nat→α→Option β} {a:α} {r:β} (h:o = some a) (k:Ev (fun n => f n a) r):Ev (fun n => o.bind (f n)) r:=by
 subst h;exact k
theorem Ev.done {α:Type} {a r:α} (h:a = r):Ev (fun _ => some a) r:=by subst h;exact Ev.now _
theorem Ev.eq {α:Type} {g:Nat→Option α} {a r:α} (h:Ev g a) (e:a = r):Ev g r:=e ▸ h
theorem Ev.at_ {α:Type} {g:Nat→Option α} {a:α} (h:Ev g a):∃ k,g k = some a:=Ev.rounds h
def inR (a b c:Int):Bool:=decide (b≤a∧a≤c)
theorem Zr {a b c:Int}:inR a b c = true↔b≤a∧a≤c:=by simp [inR]
theorem Zbz {a b c:Int}:inR a b c = false↔¬ (b≤a∧a≤c):=by simp [inR]
theorem ZbS (xs:List Int) (n:Nat):rd xs (n:Int) = xs.getD n 0:=by simp [rd]
theorem Zi {α:Type} {xs:List α} {n:Nat} {x:α} {t:List α} (h:xs.drop n = x::t):n < xs.length∧(∀ d,xs.getD n d = x)∧xs.drop (n + 1) = t:=by
 have hn:n < xs.length:=by
  rcases Nat.lt_or_ge n xs.length with h1 | h1
  ·exact h1
  ·rw [List.drop_eq_nil_of_le h1] at h;cases h
 rw [List.drop_eq_getElem_cons hn] at h
 injection h with h1 h2
 exact ⟨hn,fun d => by rw [List.getD_eq_getElem?_getD,List.getElem?_eq_getElem hn];simpa using h1,h2⟩
theorem ZE {α:Type} {xs:List α} {n:Nat} (h:xs.drop n = []):xs.length≤n:=by simpa using h
theorem Z3c {xs:List Int} {n:Nat} {x:Int} {t:List Int} (h:xs.drop n = x::t):rd xs (n:Int) = x:=by
 rw [ZbS];exact (Zi h).2.1 0
def Z4e (xs:List Int):Nat→Option Int
 | 0 => none
 | n + 1 => some (rd xs (n:Int))
def rise (lo hi:Int):Option Int→List Int→Bool
 | _,[] => true
 | none,x::t => inR x lo hi && rise lo hi (some x) t
 | some q,x::t => inR x lo hi && (decide (q < x) && rise lo hi (some x) t)
theorem Z7E {xs:List Int} {n:Nat} {x:Int} {t:List Int} (h:xs.drop n = x::t):Z4e xs (n + 1) = some x:=by
 rw [Z4e,Z3c h]
theorem Zdq {lo hi:Int}:∀ {l:List Int} {p:Option Int},rise lo hi p l = true→∀ x∈l,lo≤x∧x≤hi
 | [],_,_,x,hx => by cases hx
 | y::t,p,h,x,hx => by
  cases p with
  | none =>
   simp only [rise,Bool.and_eq_true] at h
   rcases List.mem_cons.1 hx with rfl | hx
   ·exact Zr.1 h.1
   ·exact Zdq h.2 x hx
  | some q =>
   simp only [rise,Bool.and_eq_true] at h
   rcases List.mem_cons.1 hx with rfl | hx
   ·exact Zr.1 h.1
   ·exact Zdq h.2.2 x hx
def Z4o (l:List Int):Bool:=inR l.length 1 4 && rise 1 4 none l
theorem confOk_len {l:List Int} (h:Z4o l = true):1≤l.length∧l.length≤4:=by
 simp only [Z4o,Bool.and_eq_true] at h
 have:=Zr.1 h.1;omega
theorem confOk_mem {l:List Int} (h:Z4o l = true):∀ x∈l,1≤x∧x≤4:=by
 simp only [Z4o,Bool.and_eq_true] at h
 exact Zdq h.2
theorem ZdT {α:Type} {xs:List α} {n:Nat} {z:α} (h:n < xs.length):xs[n]? = some (xs.getD n z):=by
 rw [List.getD_eq_getElem?_getD,List.getElem?_eq_getElem h];rfl
theorem Z3C {s:ByteArray} {n:Nat} {x:Int} {t:List Int} (h:(bytesOf s).drop n = x::t):n < s.size∧bt s (n:Int) = x∧(bytesOf s).drop (n + 1) = t∧0≤x∧x≤255:=by
 obtain ⟨h1,-,h3⟩:=Zi h
 have e:=Z3c h
 rw [Z6X] at e
 have:=ZdR s (n:Int)
 rw [Ze] at h1
 exact ⟨h1,e,h3,by omega,by omega⟩
theorem Z3V {s:ByteArray} {n:Nat} (h:(bytesOf s).drop n = []):s.size≤n:=by
 have:=ZE h;rwa [Ze] at this
theorem Z1z:∀ (xs:List Int),(∀ x∈xs,0≤x∧x≤255)→bytesOf (strOfNums xs) = xs:=by
 intro xs h
 unfold bytesOf
 rw [strOfNums_data,List.map_map]
 conv => rhs;rw [←List.map_id xs]
 apply List.map_congr_left
 intro x hx
 have:=h x hx
 simp only [Function.comp,id,UInt8.toNat_ofNat']
 omega
theorem Z22 (xs ys:List Int):strOfNums (xs++ys) = strOfNums xs++strOfNums ys:=by
 apply ByteArray.ext
 simp [strOfNums]
theorem empty_append (s:ByteArray):(⟨#[]⟩:ByteArray)++s = s:=by
 apply ByteArray.ext;simp
theorem size_append (a b:ByteArray):(a++b).size = a.size + b.size:=ByteArray.size_append
def varL (n:Nat):List Int:=if n > 127 then ((n % 128 + 128:Nat):Int)::varL (n / 128) else [(n:Int)]
termination_by n
decreasing_by omega
def Zx (n:Nat):ByteArray:=strOfNums (varL n)
theorem Z4Y {n:Nat} (h:n > 127):varL n = ((n % 128 + 128:Nat):Int)::varL (n / 128):=by rw [varL,if_pos h]
theorem Z3h {n:Nat} (h:¬ n > 127):varL n = [(n:Int)]:=by rw [varL,if_neg h]
theorem Z6W (n:Nat):∀ x∈varL n,0≤x∧x≤255:=by
 induction n using Nat.strongRecOn with
 | ind n ih =>
  intro x hx
  by_cases h:n > 127
  ·rw [Z4Y h] at hx
   rcases List.mem_cons.1 hx with rfl | hx
   ·omega
   ·exact ih _ (by omega) x hx
  ·rw [Z3h h] at hx
   obtain rfl:=List.mem_singleton.1 hx
   omega
theorem varL_le:∀ (j n:Nat),n < 128 ^ (j + 1)→(varL n).length≤j + 1
 | 0,n,h => by rw [Z3h (by omega)];simp
 | j + 1,n,h => by
  by_cases hn:n > 127
  ·rw [Z4Y hn]
   have:=varL_le j (n / 128) (by rw [Nat.div_lt_iff_lt_mul (by omega)];rw [Nat.pow_succ] at h;exact h)
   simp;omega
  ·rw [Z3h hn];simp
theorem Z2d {n:Nat} (h:n≤34359738367):(varL n).length≤5:=varL_le 4 n (by omega)
theorem Z61 (n:Nat):1≤(varL n).length:=by
 by_cases hn:n > 127
 ·rw [Z4Y hn];simp
 ·rw [Z3h hn];simp
theorem Z1f {n:Nat} (h:n≤34359738367):(Zx n).size≤5:=by rw [Zx,strOfNums_size];exact Z2d h
theorem Z7s (n:Nat):1≤(Zx n).size:=by rw [Zx,strOfNums_size];exact Z61 n
theorem Z1p (n:Nat):bytesOf (Zx n) = varL n:=Z1z _ (Z6W n)
theorem tdiv128 (n:Nat) (h:n≤9223372036854775807):wrap64 (Int.tdiv (n:Int) 128) = ((n / 128:Nat):Int):=by
 rw [Int.tdiv_eq_ediv_of_nonneg (by omega),Z9 (by omega) (by omega)];omega
theorem tmod128 (n:Nat):(wrap64 ((Int.tmod (n:Int) 128) + 128)) % 256 = ((n % 128 + 128:Nat):Int):=by
 rw [Int.tmod_eq_emod_of_nonneg (by omega),Z9 (by omega) (by omega)];omega
def Z5J (n:Int):ByteArray×Bool:=if inR n 0 1000000000 = true then (Zx n.toNat,true) else (⟨#[]⟩,false)
def varsOf (l:List Int):ByteArray×Bool:=if l.all (fun n => inR n 0 1000000000) = true then (strOfNums (l.flatMap fun n => varL n.toNat),true) else (⟨#[]⟩,false)
def sumBit (s:Int):Int:=if Int.tmod s 2 = 1 then Go.bits .xor .u32 ((Int.tdiv s 2) % 4294967296) 3558460437 else (Int.tdiv s 2) % 4294967296
def Z6y:Nat→Int→Int
 | 0,s => s
 | n + 1,s => Z6y n (sumBit s)
def Z93 (s:Int):List Int→Int
 | [] => s
 | b::t => Z93 (Z6y 8 (Go.bits .xor .u32 s (b % 4294967296))) t
def sumOf (s:ByteArray):Int:=Z93 4294967295 (bytesOf s)
def four (x:Int):ByteArray:=strOfNums [(x / 16777216) % 256,(x / 65536) % 256,(x / 256) % 256,x % 256]
theorem Z3r (x:Int):(four x).size = 4:=by rw [four,strOfNums_size];rfl
def frame (s:ByteArray):ByteArray×Bool:=if inR s.size 1 9000 = true then (Zx s.size++four (sumOf s)++s,true) else (⟨#[]⟩,false)
theorem toList_inj {a b:ByteArray}:a.toList = b.toList↔a = b:=by
 constructor
 ·intro h
  rw [ByteArray.toList_eq,ByteArray.toList_eq] at h
  exact ByteArray.ext (Array.toList_inj.1 h)
 ·intro h;rw [h]
theorem Zdl {a:ByteArray}:a.toList = []↔a.size = 0:=by
 rw [ByteArray.toList_eq,←List.length_eq_zero_iff,Z5g]
def emp (s:ByteArray):Bool:=s.toList == ([]:List UInt8)
theorem emp_true {s:ByteArray}:emp s = true↔s.size = 0:=by
 unfold emp;rw [beq_iff_eq,Zdl]
theorem ZdK (s:ByteArray):s.toList = ([]:List UInt8)↔emp s = true:=by unfold emp;rw [beq_iff_eq]
def cmdOk (op s q:Int) (key value old:ByteArray):Bool :=
 inR op 1 5 && (inR s 0 100000 && (inR q 0 100000 && (decide (value.size≤12) && (decide (old.size≤12) &&
  (if op = 1 then s == 0 && (q == 0 && (emp key && (emp value && emp old)))
   else inR key.size 1 9 && (if op = 2∨op = 4 then emp value && emp old else if op = 3 then emp old else true))))))
def ZM (s:ByteArray):ByteArray:=Zx s.size++s
theorem tdiv10 (n:Nat) (h:n≤9223372036854775807):wrap64 (Int.tdiv (n:Int) 10) = ((n / 10:Nat):Int):=by
 rw [Int.tdiv_eq_ediv_of_nonneg (by omega),Z9 (by omega) (by omega)];omega
theorem tmod10 (n:Nat):(wrap64 (48 + (Int.tmod (n:Int) 10))) % 256 = ((48 + n % 10:Nat):Int):=by
 rw [Int.tmod_eq_emod_of_nonneg (by omega),Z9 (by omega) (by omega)];omega
theorem set_at {α:Type} {a:List α} {n:Nat} (h:a.length = n) (v v':α) (t:List α):(a++v::t).set n v' = a++v'::t:=by
 subst h;rw [List.set_append_right _ _ (Nat.le_refl _)];simp
theorem Z2E {s:ByteArray} (h:s.size≤34359738367):(ZM s).size≤s.size + 5:=by
 have:=Z1f h
 rw [ZM,size_append];omega
theorem Zbe {op s q:Int} {key value old:ByteArray} (h:cmdOk op s q key value old = true):(0≤s∧s≤100000)∧(0≤q∧q≤100000)∧key.size≤9∧value.size≤12∧old.size≤12:=by
 unfold cmdOk at h
 simp only [Bool.and_eq_true,Zr,decide_eq_true_eq] at h
 obtain ⟨h1,h2,h3,h4,h5,h6⟩:=h
 refine ⟨h2,h3,?_,h4,h5⟩
 split at h6
 ·simp only [Bool.and_eq_true] at h6
  have:=emp_true.1 h6.2.2.1;omega
 ·simp only [Bool.and_eq_true,Zr] at h6;omega
theorem Z07 (a b:ByteArray):bytesOf (a++b) = bytesOf a++bytesOf b:=by
 unfold bytesOf
 rw [ByteArray.data_append,Array.toList_append,List.map_append]
theorem map_inj {α β:Type} {f:α→β} (hf:∀ x y,f x = f y→x = y):∀ {l l':List α},l.map f = l'.map f→l = l'
 | [],[],_ => rfl
 | [],_::_,h => by simp at h
 | _::_,[],h => by simp at h
 | x::l,y::l',h => by
  simp only [List.map_cons,List.cons.injEq] at h
  rw [hf _ _ h.1,map_inj hf h.2]
theorem Z0N {a b:ByteArray} (h:bytesOf a = bytesOf b):a = b:=by
 apply ByteArray.ext
 apply Array.toList_inj.1
 unfold bytesOf at h
 exact map_inj (fun x y hxy => UInt8.toNat_inj.1 (Int.ofNat.inj hxy)) h
theorem ZcJ {a b:ByteArray}:a.toList = b.toList↔bytesOf a = bytesOf b:=by
 rw [toList_inj]
 exact ⟨fun h => by rw [h],Z0N⟩
theorem Z4k (s:ByteArray):∀ x∈bytesOf s,0≤x∧x≤255:=by
 intro x hx
 obtain ⟨b,-,rfl⟩:=List.mem_map.1 hx
 have:=b.toNat_lt
 omega
theorem Z0M (s:ByteArray) (i j:Nat):bytesOf (s.extract i j) = ((bytesOf s).take j).drop i:=by
 unfold bytesOf
 rw [ByteArray.data_extract,Array.toList_extract,List.extract_eq_take_drop,List.map_take,List.map_drop,List.drop_take]
theorem bytesOf_take (s:ByteArray) (j:Nat) (h:s.size≤j):(bytesOf s).take j = bytesOf s:=List.take_of_length_le (by rw [Ze];exact h)
def val:List Int→Nat
 | [] => 0
 | b::t => (b % 128).toNat + 128 * val t
theorem Z8O:∀ (a b:List Int),val (a++b) = val a + 128 ^ a.length * val b
 | [],b => by simp [val]
 | x::a,b => by
  rw [List.cons_append,val,val,Z8O a b,List.length_cons,Nat.pow_succ]
  rw [Nat.mul_add,←Nat.mul_assoc,Nat.mul_comm 128 (128 ^ a.length)]
  omega
theorem val_lt:∀ (a:List Int),val a < 128 ^ a.length
 | [] => by simp [val]
 | x::a => by
  have:=val_lt a
  rw [val,List.length_cons,Nat.pow_succ]
  omega
theorem val_varL (n:Nat):val (varL n) = n:=by
 induction n using Nat.strongRecOn with
 | ind n ih =>
  by_cases h:n > 127
  ·rw [Z4Y h,val,ih _ (by omega)];omega
  ·rw [Z3h h,val,val];omega
def Z2Y:Nat→List Int→Option (List Int)
 | 0,_ => none
 | _ + 1,[] => none
 | k + 1,b::t => if b < 128 then some [b] else (Z2Y k t).map (b::·)
theorem Z8W:∀ {k:Nat} {l bs:List Int},Z2Y k l = some bs→bs.length≤k∧bs.length≤l.length∧l.take bs.length = bs∧bs≠[]
 | 0,_,_,h => by simp [Z2Y] at h
 | k + 1,[],_,h => by simp [Z2Y] at h
 | k + 1,b::t,bs,h => by
  rw [Z2Y] at h
  by_cases hb:b < 128
  ·rw [if_pos hb] at h
   obtain rfl:=Option.some.inj h
   simp
  ·rw [if_neg hb] at h
   obtain ⟨cs,hc,rfl⟩:=Option.map_eq_some_iff.1 h
   obtain ⟨h1,h2,h3,-⟩:=Z8W hc
   simp only [List.length_cons]
   exact ⟨by omega,by omega,by rw [List.take_succ_cons,h3],by simp⟩
theorem varSeg_varL (n:Nat) (rest:List Int):∀ (k:Nat),(varL n).length≤k→Z2Y k (varL n++rest) = some (varL n):=by
 induction n using Nat.strongRecOn with
 | ind n ih =>
  intro k hk
  obtain ⟨j,rfl⟩:∃ j,k = j + 1:=⟨k - 1,by have:=Z61 n;omega⟩
  by_cases h:n > 127
  ·rw [Z4Y h] at hk ⊢
   rw [List.cons_append,Z2Y,if_neg (by omega),ih _ (by omega) j (by simpa using hk)]
   rfl
  ·rw [Z3h h]
   rw [List.cons_append,Z2Y,if_pos (by omega)]
theorem Zaa:∀ {k:Nat} {l bs:List Int},(∀ x∈l,0≤x∧x≤255)→Z2Y k l = some bs→((varL (val bs)).length = bs.length↔varL (val bs) = bs)
 | 0,_,_,_,h => by simp [Z2Y] at h
 | k + 1,[],_,_,h => by simp [Z2Y] at h
 | k + 1,b::t,bs,hl,h => by
  have hb:=hl b List.mem_cons_self
  rw [Z2Y] at h
  by_cases hb':b < 128
  ·rw [if_pos hb'] at h
   obtain rfl:=Option.some.inj h
   have e:val [b] = b.toNat:=by simp only [val];omega
   rw [e,Z3h (by omega)]
   simp;omega
  ·rw [if_neg hb'] at h
   obtain ⟨cs,hc,rfl⟩:=Option.map_eq_some_iff.1 h
   have ih:=Zaa (fun x hx => hl x (List.mem_cons_of_mem _ hx)) hc
   have hne:=(Z8W hc).2.2.2
   refine ⟨fun h' => ?_,fun h' => by rw [h']⟩
   rw [val] at h' ⊢
   by_cases hv:val cs = 0
   ·rw [hv,Z3h (by omega)] at h'
    simp at h'
    exact absurd h' hne
   ·rw [Z4Y (by omega),List.length_cons,List.length_cons] at h'
    rw [show ((b % 128).toNat + 128 * val cs) / 128 = val cs by omega] at h'
    rw [Z4Y (by omega),show ((b % 128).toNat + 128 * val cs) / 128 = val cs by omega,ih.1 (by omega)]
    congr 1
    omega
def Z5U (l:List Int):Option (Nat×Nat) :=
 match Z2Y 5 l with
 | none => none
 | some bs => if val bs≤1000000000∧varL (val bs) = bs then some (val bs,bs.length) else none
def Zk (s:ByteArray) (at_:Int):Int×Int×Bool :=
 if inR at_ 0 s.size = true then
  match Z5U ((bytesOf s).drop at_.toNat) with
  | some (n,m) => ((n:Int),at_ + (m:Int),true)
  | none => (0,0,false)
 else (0,0,false)
theorem Zdz {l:List Int} {n m:Nat} (h:Z5U l = some (n,m)):n≤1000000000∧m = (varL n).length∧l.take m = varL n∧m≤l.length∧1≤m:=by
 unfold Z5U at h
 split at h
 ·cases h
 ·rename_i bs hs
  split at h
  ·rename_i hc
   simp only [Option.some.injEq,Prod.mk.injEq] at h
   obtain ⟨rfl,rfl⟩:=h
   obtain ⟨h1,h2,h3,h4⟩:=Z8W hs
   have:=Z61 (val bs)
   rw [hc.2] at this
   exact ⟨hc.1,by rw [hc.2],by rw [h3,hc.2],h2,this⟩
  ·cases h
theorem ZdB {n:Nat} (hn:n≤1000000000) (rest:List Int):Z5U (varL n++rest) = some (n,(varL n).length):=by
 unfold Z5U
 rw [varSeg_varL n rest 5 (Z2d (by omega))]
 simp only [val_varL]
 rw [if_pos ⟨hn,trivial⟩]
theorem Z2x {s:ByteArray} {a n b:Int} (h:Zk s a = (n,b,true)):0≤a∧a≤s.size∧a < b∧b≤s.size∧0≤n∧n≤1000000000∧b = a + ((varL n.toNat).length:Int)∧((bytesOf s).drop a.toNat).take (varL n.toNat).length = varL n.toNat:=by
 unfold Zk at h
 split at h
 ·rename_i hr
  have hr:=Zr.1 hr
  split at h
  ·rename_i n' m hm
   simp only [Prod.mk.injEq,and_true] at h
   obtain ⟨rfl,rfl⟩:=h
   obtain ⟨h1,h2,h3,h4,h5⟩:=Zdz hm
   rw [List.length_drop,Ze] at h4
   rw [Int.toNat_natCast]
   refine ⟨hr.1,hr.2,by omega,by omega,by omega,by omega,by rw [h2],by rw [←h2];exact h3⟩
  ·simp at h
 ·simp at h
theorem readVar_ok {s:ByteArray} {a:Int} {n:Nat} (ha:0≤a) (ha':a≤s.size) (hn:n≤1000000000) (rest:List Int) (h:(bytesOf s).drop a.toNat = varL n++rest):Zk s a = ((n:Int),a + ((varL n).length:Int),true):=by
 unfold Zk
 rw [if_pos (Zr.2 ⟨ha,ha'⟩),h,ZdB hn]
theorem Z7D {i:Nat} (h:i≤5):128 ^ i≤34359738368:=by
 rcases i with _ | _ | _ | _ | _ | _ | i
 ·decide
 ·decide
 ·decide
 ·decide
 ·decide
 ·decide
 ·omega
theorem byte_mod {b:Int} (h0:0≤b) (h1:b≤255):Int.tmod (wrap64 b) 128 = b % 128:=by
 rw [Z9 (by omega) (by omega),Int.tmod_eq_emod_of_nonneg h0]
def Z0e (s:ByteArray) (a:Int) (bad:Bool):Int×ByteArray×Int×Bool :=
 if bad = true then (0,s,a,true) else if (Zk s a).2.2 = true then ((Zk s a).1,s,(Zk s a).2.1,bad) else (0,s,a,true)
def Z2u (s:ByteArray) (a:Int) (bad:Bool):Int×ByteArray×Int×Bool :=
 if bad = true then (0,s,a,true) else if a≥(s.size:Int) then (0,s,a,true) else (bt s a,s,a + 1,bad)
def Z2q (s:ByteArray) (a:Int) (bad:Bool) (n:Int):ByteArray×ByteArray×Int×Bool :=
 if bad = true then (⟨#[]⟩,s,a,true) else if n > (s.size:Int) - a then (⟨#[]⟩,s,a,true) else (s.extract a.toNat (a + n).toNat,s,a + n,bad)
theorem Z7y {s:ByteArray} {a:Int} {bad:Bool} (h:(Z0e s a bad).2.2.2 = false):bad = false∧Zk s a = ((Z0e s a bad).1,(Z0e s a bad).2.2.1,true):=by
 unfold Z0e at h ⊢
 cases bad
 ·simp only [if_neg (show ¬ (false = true) by decide)] at h ⊢
  cases hb:(Zk s a).2.2
  ·rw [hb] at h;simp at h
  ·simp only [if_true]
   exact ⟨trivial,by rw [←hb]⟩
 ·simp at h
theorem Zde {s:ByteArray} {a:Int} {bad:Bool} (h:(Z0e s a bad).2.2.2 = true):Z0e s a bad = (0,s,a,true):=by
 unfold Z0e at h ⊢
 cases bad
 ·simp only [if_neg (show ¬ (false = true) by decide)] at h ⊢
  cases hb:(Zk s a).2.2
  ·simp
  ·rw [hb] at h;simp at h
 ·simp
theorem Z12 (s:ByteArray) (a:Int) (bad:Bool):(Z0e s a bad).2.1 = s:=by
 unfold Z0e;split
 ·rfl
 ·split <;> rfl
theorem curNum_ok {s:ByteArray} {a n b:Int} (h:Zk s a = (n,b,true)):Z0e s a false = (n,s,b,false):=by
 unfold Z0e;rw [h];rfl
theorem Z0E {s:ByteArray} {a:Int} {bad:Bool} (h0:0≤a) (h1:a≤s.size):0≤(Z0e s a bad).2.2.1∧(Z0e s a bad).2.2.1≤s.size:=by
 cases h:(Z0e s a bad).2.2.2
 ·obtain ⟨-,hr⟩:=Z7y h
  have:=Z2x hr
  omega
 ·rw [Zde h];exact ⟨h0,h1⟩
theorem varTextOf_no {n:Int} (h:¬ n≤1000000000):Z5J n = (⟨#[]⟩,false):=by
 rw [Z5J,if_neg (fun e => h (Zr.1 e).2)]
theorem drop_bt {s:ByteArray} {n:Nat} (h:n < s.size):(bytesOf s).drop n = bt s (n:Int)::(bytesOf s).drop (n + 1):=by
 have hz:=Ze s
 rw [List.drop_eq_getElem_cons (by omega)]
 congr 1
 rw [←Z6X,ZbS,List.getD_eq_getElem?_getD,List.getElem?_eq_getElem (by omega)];rfl
theorem Z5x {s:ByteArray} {n:Nat}:bytesOf (s.extract n s.size) = (bytesOf s).drop n:=by
 rw [Z0M,bytesOf_take _ _ (Nat.le_refl _)]
theorem Zcw {l:List Int} {v:List Int} (h:l.take v.length = v):l = v++l.drop v.length:=by
 conv => lhs;rw [←List.take_append_drop v.length l,h]
def At (s:ByteArray) (a:Int) (P:List Int) (b:Int):Prop:=0≤a∧b = a + (P.length:Int)∧b≤s.size∧(bytesOf s).drop a.toNat = P++(bytesOf s).drop b.toNat
theorem At.nil {s:ByteArray} {a:Int} (h0:0≤a) (h1:a≤s.size):At s a [] a:=⟨h0,by simp,h1,by simp⟩
theorem At.mk' {s:ByteArray} {a:Int} {P rest:List Int} (h0:0≤a) (h1:a≤s.size) (h:(bytesOf s).drop a.toNat = P++rest):At s a P (a + (P.length:Int)):=by
 have hl:(bytesOf s).length - a.toNat = P.length + rest.length:=by rw [←List.length_drop,h,List.length_append]
 rw [Ze] at hl
 refine ⟨h0,rfl,by omega,?_⟩
 rw [show (a + (P.length:Int)).toNat = a.toNat + P.length by omega,←List.drop_drop,h]
 simp
theorem At.split {s:ByteArray} {a b:Int} {P Q:List Int} (h:At s a (P++Q) b):At s a P (a + (P.length:Int))∧At s (a + (P.length:Int)) Q b:=by
 obtain ⟨h0,h1,h2,h3⟩:=h
 rw [List.length_append] at h1
 have hA:=At.mk' (s:=s) (a:=a) (P:=P) (rest:=Q++(bytesOf s).drop b.toNat) h0 (by omega) (by rw [h3,List.append_assoc])
 refine ⟨hA,by omega,by omega,h2,?_⟩
 have:=hA.2.2.2
 rw [h3,List.append_assoc] at this
 exact (List.append_cancel_left this).symm
theorem At.trans {s:ByteArray} {a b c:Int} {P Q:List Int} (h:At s a P b) (k:At s b Q c):At s a (P++Q) c:=by
 obtain ⟨h0,h1,h2,h3⟩:=h
 obtain ⟨k0,k1,k2,k3⟩:=k
 exact ⟨h0,by rw [List.length_append];omega,k2,by rw [h3,k3,List.append_assoc]⟩
theorem At.whole (s:ByteArray):At s 0 (bytesOf s) s.size:=by
 have h:=At.mk' (s:=s) (a:=0) (P:=bytesOf s) (rest:=[]) (by omega) (by omega) (by simp)
 rwa [Ze,Int.zero_add] at h
theorem At.all {s:ByteArray} {P:List Int} (h:At s 0 P s.size):bytesOf s = P:=by
 have:=h.2.2.2
 rw [Int.toNat_natCast,List.drop_of_length_le (l:=bytesOf s) (i:=s.size) (by rw [Ze];omega)] at this
 simpa using this
theorem At.le {s:ByteArray} {a b:Int} {P:List Int} (h:At s a P b):0≤a∧a≤b∧b≤s.size∧b = a + (P.length:Int):=⟨h.1,by have:=h.2.1;omega,h.2.2.1,h.2.1⟩
theorem At.size {s:ByteArray} {a b:Int} {P:List Int} (h:At s a P b):a≤s.size:=by have:=h.le;omega
theorem Zda {s:ByteArray} {a n b:Int} (h:Zk s a = (n,b,true)):At s a (varL n.toNat) b∧0≤n∧n≤1000000000:=by
 obtain ⟨h1,h2,h3,h4,h5,h6,h7,h8⟩:=Z2x h
 refine ⟨⟨h1,h7,h4,?_⟩,h5,h6⟩
 have:=Zcw h8
 rw [this,List.drop_drop,show a.toNat + (varL n.toNat).length = b.toNat by omega]
theorem Z5j {s:ByteArray} {a b:Int} {n:Nat} (h:At s a (varL n) b) (hn:n≤1000000000):Zk s a = ((n:Int),b,true):=by
 rw [readVar_ok h.1 h.size hn _ h.2.2.2,←h.2.1]
theorem Z9S {s:ByteArray} {a n b:Int} {bad:Bool} {t:ByteArray} (h:Z0e s a bad = (n,t,b,false)):bad = false∧t = s∧At s a (varL n.toNat) b∧0≤n∧n≤1000000000:=by
 have h1:=Z7y (s:=s) (a:=a) (bad:=bad) (by rw [h])
 have h2:=Z12 s a bad
 rw [h] at h1 h2
 exact ⟨h1.1,h2,Zda h1.2⟩
theorem Z1Z {s:ByteArray} {a b:Int} {n:Nat} (h:At s a (varL n) b) (hn:n≤1000000000):Z0e s a false = ((n:Int),s,b,false):=curNum_ok (Z5j h hn)
theorem ZdX {s:ByteArray} {a n b:Int} {bad:Bool} {t:ByteArray} (h0:0≤a) (h:Z2u s a bad = (n,t,b,false)):bad = false∧t = s∧At s a [n] b∧0≤n∧n≤255:=by
 unfold Z2u at h
 split at h
 ·simp at h
 ·rename_i hb
  split at h
  ·simp at h
  ·simp only [Prod.mk.injEq] at h
   obtain ⟨rfl,rfl,rfl,-⟩:=h
   have:=ZdR s a
   refine ⟨by simpa using hb,rfl,⟨h0,by simp,by omega,?_⟩,this⟩
   have:=drop_bt (s:=s) (n:=a.toNat) (by omega)
   rw [Int.toNat_of_nonneg h0] at this
   rw [this,show (a + 1).toNat = a.toNat + 1 by omega];rfl
theorem at_bt {s:ByteArray} {a b n:Int} (h:At s a [n] b):bt s a = n∧a < s.size∧b = a + 1:=by
 obtain ⟨h0,h1,h2,h3⟩:=h
 rw [List.length_singleton] at h1
 have e:=drop_bt (s:=s) (n:=a.toNat) (by omega)
 rw [Int.toNat_of_nonneg h0,h3] at e
 exact ⟨(List.cons.inj e).1.symm,by omega,h1⟩
theorem curByte_fwd {s:ByteArray} {a b n:Int} (h:At s a [n] b):Z2u s a false = (n,s,b,false):=by
 obtain ⟨h1,h2,h3⟩:=at_bt h
 unfold Z2u
 rw [if_neg (by simp),if_neg (by omega),h1,h3]
theorem Z5N {s:ByteArray} {a b:Int} {P:List Int} (h:At s a P b):bytesOf (s.extract a.toNat b.toNat) = P:=by
 obtain ⟨h0,h1,h2,h3⟩:=h
 rw [Z0M,List.drop_take,h3,show b.toNat - a.toNat = P.length by omega]
 simp
theorem Z8P {s:ByteArray} {a b:Int} (h0:0≤a) (h1:a≤b) (h2:b≤s.size):At s a (bytesOf (s.extract a.toNat b.toNat)) b:=by
 have hz:=Ze s
 have e:bytesOf (s.extract a.toNat b.toNat) = ((bytesOf s).drop a.toNat).take (b.toNat - a.toNat):=by rw [Z0M,List.drop_take]
 have hl:(bytesOf (s.extract a.toNat b.toNat)).length = b.toNat - a.toNat:=by rw [e,List.length_take,List.length_drop];omega
 refine ⟨h0,by omega,h2,?_⟩
 rw [e]
 conv => lhs;rw [←List.take_append_drop (b.toNat - a.toNat) ((bytesOf s).drop a.toNat)]
 rw [List.drop_drop,show a.toNat + (b.toNat - a.toNat) = b.toNat by omega]
theorem Z4L {s:ByteArray} {a b:Int} (h0:0≤a) (h1:a≤b) (h2:b≤s.size):((s.extract a.toNat b.toNat).size:Int) = b - a:=by
 have:=(Z8P h0 h1 h2).2.1
 rw [Ze] at this;omega
theorem Z8i {s:ByteArray} {a n b:Int} {bad:Bool} {r t:ByteArray} (h0:0≤a) (hn:0≤n) (h:Z2q s a bad n = (r,t,b,false)):bad = false∧t = s∧At s a (bytesOf r) b∧(r.size:Int) = n:=by
 unfold Z2q at h
 split at h
 ·simp at h
 ·rename_i hb
  split at h
  ·simp at h
  ·simp only [Prod.mk.injEq] at h
   obtain ⟨rfl,rfl,rfl,-⟩:=h
   refine ⟨by simpa using hb,rfl,Z8P h0 (by omega) (by omega),?_⟩
   rw [Z4L h0 (by omega) (by omega)];omega
theorem Zc5 {s:ByteArray} {a b:Int} {r:ByteArray} (h:At s a (bytesOf r) b):Z2q s a false r.size = (r,s,b,false):=by
 have hl:=h.2.1
 rw [Ze] at hl
 have:=h.le
 unfold Z2q
 rw [if_neg (by simp),if_neg (by omega),←hl]
 rw [Z0N (Z5N h)]
theorem Z8m {s:ByteArray} {a n:Int} {bad:Bool} (h0:0≤a) (h1:a≤s.size) (hn:0≤n):0≤(Z2q s a bad n).2.2.1∧(Z2q s a bad n).2.2.1≤s.size:=by
 unfold Z2q
 split
 ·exact ⟨h0,h1⟩
 ·split
  ·exact ⟨h0,h1⟩
  ·dsimp only;omega
theorem Za2 (s:ByteArray) (a n:Int) (bad:Bool):(Z2q s a bad n).2.1 = s:=by
 unfold Z2q;split
 ·rfl
 ·split <;> rfl
theorem Ze4 {s:ByteArray} {a:Int} {bad:Bool} (h0:0≤a) (h1:a≤s.size):0≤(Z2u s a bad).2.2.1∧(Z2u s a bad).2.2.1≤s.size:=by
 unfold Z2u
 split
 ·exact ⟨h0,h1⟩
 ·split
  ·exact ⟨h0,h1⟩
  ·dsimp only;omega
theorem curByte_text (s:ByteArray) (a:Int) (bad:Bool):(Z2u s a bad).2.1 = s:=by
 unfold Z2u;split
 ·rfl
 ·split <;> rfl
theorem Z3J (s:ByteArray) (a:Int) (bad:Bool):0≤(Z0e s a bad).1∧(Z0e s a bad).1≤1000000000:=by
 cases h:(Z0e s a bad).2.2.2
 ·obtain ⟨-,hr⟩:=Z7y h
  have:=Z2x hr
  omega
 ·rw [Zde h];simp
def Z4d (s:ByteArray) (a:Int):ByteArray×Int×Bool :=
 if (Zk s a).2.2 = true then
  if (Zk s a).1 > 20000 then (⟨#[]⟩,0,false) else
  if (Zk s a).1 > (s.size:Int) - (Zk s a).2.1 then (⟨#[]⟩,0,false) else
  (s.extract (Zk s a).2.1.toNat ((Zk s a).2.1 + (Zk s a).1).toNat,(Zk s a).2.1 + (Zk s a).1,true)
 else (⟨#[]⟩,0,false)
def Z1T (s:ByteArray) (a:Int) (bad:Bool):ByteArray×ByteArray×Int×Bool :=
 if bad = true then (⟨#[]⟩,s,a,true) else if (Z4d s a).2.2 = true then ((Z4d s a).1,s,(Z4d s a).2.1,bad) else (⟨#[]⟩,s,a,true)
def Z2s (s:ByteArray) (a:Int) (bad:Bool):ByteArray×ByteArray×Int×Bool:=Z2q s (Z0e s a bad).2.2.1 (Z0e s a bad).2.2.2 (Z0e s a bad).1
def sh (t:ByteArray):List Int:=varL t.size++bytesOf t
theorem Z3I (t:ByteArray):bytesOf (ZM t) = sh t:=by rw [ZM,Z07,Z1p,sh]
theorem ZaW {s:ByteArray} {a b:Int} {t:ByteArray} (h:Z4d s a = (t,b,true)):At s a (sh t) b∧t.size≤20000:=by
 unfold Z4d at h
 split at h
 ·rename_i hv
  split at h
  ·simp at h
  ·split at h
   ·simp at h
   ·simp only [Prod.mk.injEq,and_true] at h
    obtain ⟨h1,h2⟩:=h
    obtain ⟨k1,k2,k3⟩:=Zda (s:=s) (a:=a) (n:=(Zk s a).1) (b:=(Zk s a).2.1) (by rw [←hv])
    generalize (Zk s a).1 = n at *
    generalize (Zk s a).2.1 = m at *
    have hm:=k1.le
    have k4:=Z8P (s:=s) (a:=m) (b:=m + n) (by omega) (by omega) (by omega)
    have k5:=Z4L (s:=s) (a:=m) (b:=m + n) (by omega) (by omega) (by omega)
    rw [h1] at k4 k5
    subst h2
    have e:n.toNat = t.size:=by omega
    rw [e] at k1
    exact ⟨k1.trans k4,by omega⟩
 ·simp at h
theorem ZdM {s:ByteArray} {a b:Int} {t:ByteArray} (h:At s a (sh t) b) (ht:t.size≤20000):Z4d s a = (t,b,true):=by
 obtain ⟨h1,h2⟩:=h.split
 have e:=Z5j h1 (by omega)
 have h3:=h2.2.1
 rw [Ze] at h3
 have:=h2.le
 unfold Z4d
 rw [e]
 dsimp only
 rw [if_pos rfl,if_neg (by omega),if_neg (by omega),←h3,Z0N (Z5N h2)]
theorem Z8d {s:ByteArray} {a b:Int} {bad:Bool} {r t:ByteArray} (h:Z1T s a bad = (r,t,b,false)):bad = false∧t = s∧At s a (sh r) b∧r.size≤20000:=by
 unfold Z1T at h
 split at h
 ·simp at h
 ·rename_i hb
  split at h
  ·rename_i hr
   simp only [Prod.mk.injEq] at h
   obtain ⟨h1,rfl,h2,-⟩:=h
   exact ⟨by simpa using hb,rfl,ZaW (by rw [←h1,←h2,←hr])⟩
  ·simp at h
theorem Z3B {s:ByteArray} {a b:Int} {t:ByteArray} (h:At s a (sh t) b) (ht:t.size≤20000):Z1T s a false = (t,s,b,false):=by
 unfold Z1T
 rw [ZdM h ht];rfl
theorem Z9Y (s:ByteArray) (a:Int) (bad:Bool):(Z1T s a bad).2.1 = s:=by
 unfold Z1T;split
 ·rfl
 ·split <;> rfl
theorem Z8w {s:ByteArray} {a:Int} {bad:Bool} (h0:0≤a) (h1:a≤s.size):0≤(Z1T s a bad).2.2.1∧(Z1T s a bad).2.2.1≤s.size:=by
 cases h:(Z1T s a bad).2.2.2
 ·have:=(Z8d (s:=s) (a:=a) (bad:=bad) (r:=(Z1T s a bad).1) (t:=(Z1T s a bad).2.1) (b:=(Z1T s a bad).2.2.1) (by rw [←h])).2.2.1.le
  omega
 ·unfold Z1T at h ⊢
  split
  ·exact ⟨h0,h1⟩
  ·split
   ·rename_i hb hr
    rw [if_neg hb,if_pos hr] at h
    exact absurd h hb
   ·exact ⟨h0,h1⟩
theorem Z8f (s:ByteArray) (a:Int) (bad:Bool):(Z2s s a bad).2.1 = s:=Za2 _ _ _ _
theorem Z7o {s:ByteArray} {a:Int} {bad:Bool} (h0:0≤a) (h1:a≤s.size):0≤(Z2s s a bad).2.2.1∧(Z2s s a bad).2.2.1≤s.size:=by
 have:=Z0E (s:=s) (a:=a) (bad:=bad) h0 h1
 exact Z8m this.1 this.2 (Z3J _ _ _).1
theorem Zcj {s:ByteArray} {a b:Int} {bad:Bool} {r t:ByteArray} (h0:0≤a) (h1:a≤s.size) (h:Z2s s a bad = (r,t,b,false)):bad = false∧t = s∧At s a (sh r) b:=by
 have hp:=Z0E (s:=s) (a:=a) (bad:=bad) h0 h1
 obtain ⟨k1,k2,k3,k4⟩:=Z8i hp.1 (Z3J _ _ _).1 h
 obtain ⟨m1,-,m3,m4,m5⟩:=Z9S (s:=s) (a:=a) (bad:=bad) (n:=(Z0e s a bad).1) (t:=(Z0e s a bad).2.1) (b:=(Z0e s a bad).2.2.1) (by rw [←k1])
 have e:(Z0e s a bad).1.toNat = r.size:=by omega
 rw [e] at m3
 exact ⟨m1,k2,m3.trans k3⟩
theorem Z9U {s:ByteArray} {a b:Int} {t:ByteArray} (h:At s a (sh t) b) (ht:t.size≤1000000000):Z2s s a false = (t,s,b,false):=by
 obtain ⟨h1,h2⟩:=h.split
 unfold Z2s
 rw [Z1Z h1 ht]
 exact Zc5 h2
theorem Z4G {s:ByteArray} {a:Int} {bad:Bool} (h:(Z0e s a bad).2.2.2 = false):bad = false∧At s a (varL (Z0e s a bad).1.toNat) (Z0e s a bad).2.2.1∧0≤(Z0e s a bad).1∧(Z0e s a bad).1≤1000000000:=by
 have e:Z0e s a bad = ((Z0e s a bad).1,(Z0e s a bad).2.1,(Z0e s a bad).2.2.1,(Z0e s a bad).2.2.2):=rfl
 rw [h] at e;obtain ⟨h1,-,h2⟩:=Z9S e;exact ⟨h1,h2⟩
theorem Zdn {s:ByteArray} {a:Int} {bad:Bool} (h0:0≤a) (h:(Z2u s a bad).2.2.2 = false):bad = false∧At s a [(Z2u s a bad).1] (Z2u s a bad).2.2.1∧0≤(Z2u s a bad).1∧(Z2u s a bad).1≤255:=by
 have e:Z2u s a bad = ((Z2u s a bad).1,(Z2u s a bad).2.1,(Z2u s a bad).2.2.1,(Z2u s a bad).2.2.2):=rfl
 rw [h] at e;obtain ⟨h1,-,h2⟩:=ZdX h0 e;exact ⟨h1,h2⟩
theorem ZdY {s:ByteArray} {a n:Int} {bad:Bool} (h0:0≤a) (hn:0≤n) (h:(Z2q s a bad n).2.2.2 = false):bad = false∧At s a (bytesOf (Z2q s a bad n).1) (Z2q s a bad n).2.2.1∧((Z2q s a bad n).1.size:Int) = n:=by
 have e:Z2q s a bad n = ((Z2q s a bad n).1,(Z2q s a bad n).2.1,(Z2q s a bad n).2.2.1,(Z2q s a bad n).2.2.2):=rfl
 rw [h] at e;obtain ⟨h1,-,h2⟩:=Z8i h0 hn e;exact ⟨h1,h2⟩
theorem Z85 {s:ByteArray} {a:Int} {bad:Bool} (h:(Z1T s a bad).2.2.2 = false):bad = false∧At s a (sh (Z1T s a bad).1) (Z1T s a bad).2.2.1∧(Z1T s a bad).1.size≤20000:=by
 have e:Z1T s a bad = ((Z1T s a bad).1,(Z1T s a bad).2.1,(Z1T s a bad).2.2.1,(Z1T s a bad).2.2.2):=rfl
 rw [h] at e;obtain ⟨h1,-,h2⟩:=Z8d e;exact ⟨h1,h2⟩
theorem Z7h {s:ByteArray} {a:Int} {bad:Bool} (h0:0≤a) (h1:a≤s.size) (h:(Z2s s a bad).2.2.2 = false):bad = false∧At s a (sh (Z2s s a bad).1) (Z2s s a bad).2.2.1:=by
 have e:Z2s s a bad = ((Z2s s a bad).1,(Z2s s a bad).2.1,(Z2s s a bad).2.2.1,(Z2s s a bad).2.2.2):=rfl
 rw [h] at e;obtain ⟨h1,-,h2⟩:=Zcj h0 h1 e;exact ⟨h1,h2⟩
def ZaD (op s q:Int) (k v o:ByteArray):List Int:=[op]++(varL s.toNat++(varL q.toNat++(sh k++(sh v++sh o))))
theorem cmd_parts {s:ByteArray} {op ss q:Int} {k v o:ByteArray} (h:bytesOf s = ZaD op ss q k v o) :
  ∃ a2 a3 a4 a5,At s 0 [op] 1∧At s 1 (varL ss.toNat) a2∧At s a2 (varL q.toNat) a3∧At s a3 (sh k) a4∧At s a4 (sh v) a5∧At s a5 (sh o) s.size:=by
 have h0:=At.whole s
 rw [h,ZaD] at h0
 obtain ⟨p1,h1⟩:=h0.split
 obtain ⟨p2,h2⟩:=h1.split
 obtain ⟨p3,h3⟩:=h2.split
 obtain ⟨p4,h4⟩:=h3.split
 obtain ⟨p5,h5⟩:=h4.split
 exact ⟨_,_,_,_,p1,p2,p3,p4,p5,h5⟩
abbrev Cmd:=Int×Int×Int×ByteArray×ByteArray×ByteArray×Bool
def noCmd:Cmd:=(0,0,0,⟨#[]⟩,⟨#[]⟩,⟨#[]⟩,false)
def CmdIs (s:ByteArray) (r:Cmd):Prop :=
 (∃ op ss q k v o,r = (op,ss,q,k,v,o,true)∧cmdOk op ss q k v o = true∧bytesOf s = ZaD op ss q k v o) ∨
 (r = noCmd∧∀ op ss q k v o,cmdOk op ss q k v o = true→bytesOf s≠ZaD op ss q k v o)
theorem Z9O {a b:Int} (ha:0≤a) (hb:0≤b) (h:(a.toNat:Int) = (b.toNat:Int)):a = b:=by omega
theorem CmdIs.one {s:ByteArray} {r r':Cmd} (h:CmdIs s r) (h':CmdIs s r'):r = r':=by
 rcases h with ⟨op,ss,q,k,v,o,rfl,h1,h2⟩ | ⟨rfl,h1⟩
 ·rcases h' with ⟨op',ss',q',k',v',o',rfl,h1',h2'⟩ | ⟨rfl,h1'⟩
  ·obtain ⟨a2,a3,a4,a5,p1,p2,p3,p4,p5,p6⟩:=cmd_parts h2
   obtain ⟨b2,b3,b4,b5,q1,q2,q3,q4,q5,q6⟩:=cmd_parts h2'
   obtain ⟨z1,z2,z3,z4,z5⟩:=Zbe h1
   obtain ⟨y1,y2,y3,y4,y5⟩:=Zbe h1'
   have e1:=(at_bt p1).1.symm.trans (at_bt q1).1
   have e2:=(Z1Z p2 (by omega)).symm.trans (Z1Z q2 (by omega))
   simp only [Prod.mk.injEq,and_true,true_and] at e2
   obtain ⟨e2,rfl⟩:=e2
   have e3:=(Z1Z p3 (by omega)).symm.trans (Z1Z q3 (by omega))
   simp only [Prod.mk.injEq,and_true,true_and] at e3
   obtain ⟨e3,rfl⟩:=e3
   have e4:=(Z3B p4 (by omega)).symm.trans (Z3B q4 (by omega))
   simp only [Prod.mk.injEq,and_true,true_and] at e4
   obtain ⟨rfl,rfl⟩:=e4
   have e5:=(Z3B p5 (by omega)).symm.trans (Z3B q5 (by omega))
   simp only [Prod.mk.injEq,and_true,true_and] at e5
   obtain ⟨rfl,rfl⟩:=e5
   have e6:=(Z3B p6 (by omega)).symm.trans (Z3B q6 (by omega))
   simp only [Prod.mk.injEq,and_true] at e6
   rw [e1,Z9O z1.1 y1.1 e2,Z9O z2.1 y2.1 e3,e6]
  ·exact absurd h2 (h1' _ _ _ _ _ _ h1)
 ·rcases h' with ⟨op',ss',q',k',v',o',rfl,h1',h2'⟩ | ⟨rfl,h1'⟩
  ·exact absurd h2' (h1 _ _ _ _ _ _ h1')
  ·rfl
def To {α:Type} (f:Nat→Option α) (P:α→Prop):Prop:=∃ r,Ev f r∧P r
theorem To.ev {α:Type} {f:Nat→Option α} {P:α→Prop} {a:α} (h:Ev f a) (p:P a):To f P:=⟨a,h,p⟩
theorem To.mono {α:Type} {f:Nat→Option α} {P Q:α→Prop} (h:To f P) (k:∀ a,P a→Q a):To f Q:=by
 obtain ⟨a,e,p⟩:=h;exact ⟨a,e,k a p⟩
theorem To.bind {α β:Type} {f:Nat→Option α} {g:Nat→α→Option β} {P:α→Prop} {Q:β→Prop} (h:To f P) (k:∀ a,P a→To (fun n => g n a) Q):To (fun n => (f n).bind (g n)) Q:=by
 obtain ⟨a,e,p⟩:=h;obtain ⟨b,e',q⟩:=k a p;exact ⟨b,Ev.bind e e',q⟩
theorem To.pos {α:Type} {c:Prop} [Decidable c] {f g:Nat→Option α} {P:α→Prop} (h:c) (k:To f P):To (fun n => if c then f n else g n) P:=by
 simp only [if_pos h];exact k
theorem To.neg {α:Type} {c:Prop} [Decidable c] {f g:Nat→Option α} {P:α→Prop} (h:¬ c) (k:To g P):To (fun n => if c then f n else g n) P:=by
 simp only [if_neg h];exact k
theorem To.ite {α:Type} {c:Prop} [Decidable c] {f g:Nat→Option α} {P:α→Prop} (h:c→To f P) (k:¬ c→To g P):To (fun n => if c then f n else g n) P:=by
 by_cases hc:c
 ·exact To.pos hc (h hc)
 ·exact To.neg hc (k hc)
theorem To.now {α:Type} {P:α→Prop} {a:α} (p:P a):To (fun _ => some a) P:=⟨a,Ev.now _,p⟩
theorem To.step {α:Type} {f g:Nat→Option α} {P:α→Prop} (h:∀ n,f (n + 1) = g n) (k:To g P):To f P:=by
 obtain ⟨a,e,p⟩:=k;exact ⟨a,Ev.step h e,p⟩
theorem To.call {α β:Type} {o:Option α} {g:Nat→α→Option β} {P:α→Prop} {Q:β→Prop} (h:∃ a,o = some a∧P a) (k:∀ a,P a→To (fun n => g n a) Q):To (fun n => o.bind (g n)) Q:=by
 obtain ⟨a,rfl,p⟩:=h;exact k a p
theorem To.at_ {α:Type} {o:Option α} {P:α→Prop} (h:To (fun _ => o) P):∃ a,o = some a∧P a:=by
 obtain ⟨a,e,p⟩:=h;obtain ⟨k,e⟩:=Ev.at_ e;exact ⟨a,e,p⟩
def flagT (b:Bool):ByteArray:=if b = true then ⟨#[1]⟩ else ⟨#[0]⟩
theorem Z95 (b:Bool):(flagT b).size = 1:=by cases b <;> rfl
def flagL (b:Bool):Int:=if b = true then 1 else 0
theorem Z8t (b:Bool):bytesOf (flagT b) = [flagL b]:=by cases b <;> rfl
theorem at_cons {s:ByteArray} {a b n:Int} {Q:List Int} (h:At s a (n::Q) b):At s a [n] (a + 1)∧At s (a + 1) Q b:=At.split (P:=[n]) h
theorem flag_at (ok:Bool):bytesOf (flagT ok) = [flagL ok]∧(flagT ok).size = 1∧((flagT ok).toList == ([1]:List UInt8)) = ok∧(flagL ok == 1) = ok:=by
 cases ok <;> exact ⟨rfl,rfl,by rw [ByteArray.toList_eq];decide,by decide⟩
theorem take_flag {s:ByteArray} {a:Int} {ok:Bool} (h:At s a [flagL ok] (a + 1)):Z2q s a false 1 = (flagT ok,s,a + 1,false):=by
 have:=Zc5 (r:=flagT ok) (s:=s) (a:=a) (b:=a + 1) (by rw [Z8t];exact h)
 rwa [Z95] at this
theorem Z6q {xs:List ByteArray} {n:Nat} {x:ByteArray} {t:List ByteArray} (h:xs.drop n = x::t):rdOf ByteArray.empty xs (n:Int) = x:=by
 rw [rdOf,Int.toNat_natCast];exact (Zi h).2.1 _
end Go.Ep
