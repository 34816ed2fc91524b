/- Plain lists, numbers and bytes. No conditions but those that each statement names. By this repo's programs; comments are taken out. -/
import Derived.Test.YtlmicldpfnmeaaaGreatDoorVFnShelvesW
set_option linter.all false
namespace Go.Ep
open Go.RowKit Go.Proofs.YtlmicldpfnmeaaaGreatDoorW.PrintWords
theorem Z9 {n:Int} (h0:-9223372036854775808≤n) (h1:n≤9223372036854775807):wrap64 n = n:=by
 unfold wrap64;omega
theorem Z4 {n:Nat} (h:n≤9223372036854775806):wrap64 ((n:Int) + 1) = ((n + 1:Nat):Int):=by
 unfold wrap64;omega
theorem wrap64_pred {n:Nat} (h:n≤9223372036854775806):wrap64 (((n + 1:Nat):Int) - 1) = (n:Int):=by
 unfold wrap64;omega
theorem Ev.pos {α:Type} {c:Prop} [Decidable c] {f g:Nat→Option α} {r:α} (h:c) (k:Ev f r):Ev (fun n => if c then f n else g n) r:=by
 simp only [if_pos h];exact k
theorem Ev.neg {α:Type} {c:Prop} [Decidable c] {f g:Nat→Option α} {r:α} (h:¬ c) (k:Ev g r):Ev (fun n => if c then f n else g n) r:=by
 simp only [if_neg h];exact k
theorem Ev.ite {α:Type} {c:Prop} [Decidable c] {f g:Nat→Option α} {r:α} (h:c→Ev f r) (k:¬ c→Ev g r):Ev (fun n => if c then f n else g n) r:=by
 by_cases hc:c
 ·exact Ev.pos hc (h hc)
 ·exact Ev.neg hc (k hc)
theorem Ev.call {α β:Type} {o:Option α} {f:Nat→α→Option β} {a:α} {r:β} (h:o = some a) (k:Ev (fun n => f n a) r):Ev (fun n => o.bind (f n)) r:=by
 subst h;exact k
theorem Ev.done {α:Type} {a r:α} (h:a = r):Ev (fun _ => some a) r:=by subst h;exact Ev.now _
theorem Ev.eq {α:Type} {g:Nat→Option α} {a r:α} (h:Ev g a) (e:a = r):Ev g r:=e ▸ h
theorem Ev.at_ {α:Type} {g:Nat→Option α} {a:α} (h:Ev g a):∃ k,g k = some a:=Ev.rounds h
def inR (a b c:Int):Bool:=decide (b≤a∧a≤c)
theorem Zu {a b c:Int}:inR a b c = true↔b≤a∧a≤c:=by simp [inR]
theorem inR_false {a b c:Int}:inR a b c = false↔¬ (b≤a∧a≤c):=by simp [inR]
theorem rd_nat (xs:List Int) (n:Nat):rd xs (n:Int) = xs.getD n 0:=by simp [rd]
theorem Zg {α:Type} {xs:List α} {n:Nat} {x:α} {t:List α} (h:xs.drop n = x::t):n < xs.length∧(∀ d,xs.getD n d = x)∧xs.drop (n + 1) = t:=by
 have hn:n < xs.length:=by
  rcases Nat.lt_or_ge n xs.length with h1 | h1
  ·exact h1
  ·rw [List.drop_eq_nil_of_le h1] at h;cases h
 rw [List.drop_eq_getElem_cons hn] at h
 injection h with h1 h2
 exact ⟨hn,fun d => by rw [List.getD_eq_getElem?_getD,List.getElem?_eq_getElem hn];simpa using h1,h2⟩
theorem ZA {α:Type} {xs:List α} {n:Nat} (h:xs.drop n = []):xs.length≤n:=by simpa using h
theorem drop_rd {xs:List Int} {n:Nat} {x:Int} {t:List Int} (h:xs.drop n = x::t):rd xs (n:Int) = x:=by
 rw [rd_nat];exact (Zg h).2.1 0
def prevOf (xs:List Int):Nat→Option Int
 | 0 => none
 | n + 1 => some (rd xs (n:Int))
def rise (lo hi:Int):Option Int→List Int→Bool
 | _,[] => true
 | none,x::t => inR x lo hi && rise lo hi (some x) t
 | some q,x::t => inR x lo hi && (decide (q < x) && rise lo hi (some x) t)
theorem prevOf_next {xs:List Int} {n:Nat} {x:Int} {t:List Int} (h:xs.drop n = x::t):prevOf xs (n + 1) = some x:=by
 rw [prevOf,drop_rd h]
theorem rise_mem {lo hi:Int}:∀ {l:List Int} {p:Option Int},rise lo hi p l = true→∀ x∈l,lo≤x∧x≤hi
 | [],_,_,x,hx => by cases hx
 | y::t,p,h,x,hx => by
  cases p with
  | none =>
   simp only [rise,Bool.and_eq_true] at h
   rcases List.mem_cons.1 hx with rfl | hx
   ·exact Zu.1 h.1
   ·exact rise_mem h.2 x hx
  | some q =>
   simp only [rise,Bool.and_eq_true] at h
   rcases List.mem_cons.1 hx with rfl | hx
   ·exact Zu.1 h.1
   ·exact rise_mem h.2.2 x hx
def confOk (l:List Int):Bool:=inR l.length 1 4 && rise 1 4 none l
theorem confOk_len {l:List Int} (h:confOk l = true):1≤l.length∧l.length≤4:=by
 simp only [confOk,Bool.and_eq_true] at h
 have:=Zu.1 h.1;omega
theorem confOk_mem {l:List Int} (h:confOk l = true):∀ x∈l,1≤x∧x≤4:=by
 simp only [confOk,Bool.and_eq_true] at h
 exact rise_mem h.2
theorem getD_get {α:Type} {xs:List α} {n:Nat} {z:α} (h:n < xs.length):xs[n]? = some (xs.getD n z):=by
 rw [List.getD_eq_getElem?_getD,List.getElem?_eq_getElem h];rfl
theorem bytesOf_drop_lt {s:ByteArray} {n:Nat} {x:Int} {t:List Int} (h:(bytesOf s).drop n = x::t):n < s.size∧bt s (n:Int) = x∧(bytesOf s).drop (n + 1) = t∧0≤x∧x≤255:=by
 obtain ⟨h1,-,h3⟩:=Zg h
 have e:=drop_rd h
 rw [rd_bytesOf] at e
 have:=bt_range s (n:Int)
 rw [Zk] at h1
 exact ⟨h1,e,h3,by omega,by omega⟩
theorem bytesOf_drop_nil {s:ByteArray} {n:Nat} (h:(bytesOf s).drop n = []):s.size≤n:=by
 have:=ZA h;rwa [Zk] at this
theorem bytesOf_strOfNums:∀ (xs:List Int),(∀ x∈xs,0≤x∧x≤255)→bytesOf (strOfNums xs) = xs:=by
 intro xs h
 unfold bytesOf
 rw [strOfNums_data,List.map_map]
 conv => rhs;rw [←List.map_id xs]
 apply List.map_congr_left
 intro x hx
 have:=h x hx
 simp only [Function.comp,id,UInt8.toNat_ofNat']
 omega
theorem strOfNums_append (xs ys:List Int):strOfNums (xs++ys) = strOfNums xs++strOfNums ys:=by
 apply ByteArray.ext
 simp [strOfNums]
theorem empty_append (s:ByteArray):(⟨#[]⟩:ByteArray)++s = s:=by
 apply ByteArray.ext;simp
theorem size_append (a b:ByteArray):(a++b).size = a.size + b.size:=ByteArray.size_append
def varL (n:Nat):List Int:=if n > 127 then ((n % 128 + 128:Nat):Int)::varL (n / 128) else [(n:Int)]
termination_by n
decreasing_by omega
def Zv (n:Nat):ByteArray:=strOfNums (varL n)
theorem varL_big {n:Nat} (h:n > 127):varL n = ((n % 128 + 128:Nat):Int)::varL (n / 128):=by rw [varL,if_pos h]
theorem varL_small {n:Nat} (h:¬ n > 127):varL n = [(n:Int)]:=by rw [varL,if_neg h]
theorem varL_bytes (n:Nat):∀ x∈varL n,0≤x∧x≤255:=by
 induction n using Nat.strongRecOn with
 | ind n ih =>
  intro x hx
  by_cases h:n > 127
  ·rw [varL_big h] at hx
   rcases List.mem_cons.1 hx with rfl | hx
   ·omega
   ·exact ih _ (by omega) x hx
  ·rw [varL_small h] at hx
   obtain rfl:=List.mem_singleton.1 hx
   omega
theorem varL_le:∀ (j n:Nat),n < 128 ^ (j + 1)→(varL n).length≤j + 1
 | 0,n,h => by rw [varL_small (by omega)];simp
 | j + 1,n,h => by
  by_cases hn:n > 127
  ·rw [varL_big hn]
   have:=varL_le j (n / 128) (by rw [Nat.div_lt_iff_lt_mul (by omega)];rw [Nat.pow_succ] at h;exact h)
   simp;omega
  ·rw [varL_small hn];simp
theorem varL_len {n:Nat} (h:n≤34359738367):(varL n).length≤5:=varL_le 4 n (by omega)
theorem varL_pos (n:Nat):1≤(varL n).length:=by
 by_cases hn:n > 127
 ·rw [varL_big hn];simp
 ·rw [varL_small hn];simp
theorem Z10 {n:Nat} (h:n≤34359738367):(Zv n).size≤5:=by rw [Zv,strOfNums_size];exact varL_len h
theorem varText_pos (n:Nat):1≤(Zv n).size:=by rw [Zv,strOfNums_size];exact varL_pos n
theorem bytesOf_varText (n:Nat):bytesOf (Zv n) = varL n:=bytesOf_strOfNums _ (varL_bytes n)
theorem tdiv128 (n:Nat) (h:n≤9223372036854775807):wrap64 (Int.tdiv (n:Int) 128) = ((n / 128:Nat):Int):=by
 rw [Int.tdiv_eq_ediv_of_nonneg (by omega),Z9 (by omega) (by omega)];omega
theorem tmod128 (n:Nat):(wrap64 ((Int.tmod (n:Int) 128) + 128)) % 256 = ((n % 128 + 128:Nat):Int):=by
 rw [Int.tmod_eq_emod_of_nonneg (by omega),Z9 (by omega) (by omega)];omega
def varTextOf (n:Int):ByteArray×Bool:=if inR n 0 1000000000 = true then (Zv n.toNat,true) else (⟨#[]⟩,false)
def varsOf (l:List Int):ByteArray×Bool:=if l.all (fun n => inR n 0 1000000000) = true then (strOfNums (l.flatMap fun n => varL n.toNat),true) else (⟨#[]⟩,false)
def sumBit (s:Int):Int:=if Int.tmod s 2 = 1 then Go.bits .xor .u32 ((Int.tdiv s 2) % 4294967296) 3558460437 else (Int.tdiv s 2) % 4294967296
def sumBits:Nat→Int→Int
 | 0,s => s
 | n + 1,s => sumBits n (sumBit s)
def sumMore (s:Int):List Int→Int
 | [] => s
 | b::t => sumMore (sumBits 8 (Go.bits .xor .u32 s (b % 4294967296))) t
def sumOf (s:ByteArray):Int:=sumMore 4294967295 (bytesOf s)
def four (x:Int):ByteArray:=strOfNums [(x / 16777216) % 256,(x / 65536) % 256,(x / 256) % 256,x % 256]
theorem four_size (x:Int):(four x).size = 4:=by rw [four,strOfNums_size];rfl
def frame (s:ByteArray):ByteArray×Bool:=if inR s.size 1 9000 = true then (Zv s.size++four (sumOf s)++s,true) else (⟨#[]⟩,false)
theorem toList_inj {a b:ByteArray}:a.toList = b.toList↔a = b:=by
 constructor
 ·intro h
  rw [ByteArray.toList_eq,ByteArray.toList_eq] at h
  exact ByteArray.ext (Array.toList_inj.1 h)
 ·intro h;rw [h]
theorem toList_nil {a:ByteArray}:a.toList = []↔a.size = 0:=by
 rw [ByteArray.toList_eq,←List.length_eq_zero_iff,data_length]
def emp (s:ByteArray):Bool:=s.toList == ([]:List UInt8)
theorem emp_true {s:ByteArray}:emp s = true↔s.size = 0:=by
 unfold emp;rw [beq_iff_eq,toList_nil]
theorem emp_iff (s:ByteArray):s.toList = ([]:List UInt8)↔emp s = true:=by unfold emp;rw [beq_iff_eq]
def cmdOk (op s q:Int) (key value old:ByteArray):Bool :=
 inR op 1 5 && (inR s 0 100000 && (inR q 0 100000 && (decide (value.size≤12) && (decide (old.size≤12) &&
  (if op = 1 then s == 0 && (q == 0 && (emp key && (emp value && emp old)))
   else inR key.size 1 9 && (if op = 2∨op = 4 then emp value && emp old else if op = 3 then emp old else true))))))
def ZJ (s:ByteArray):ByteArray:=Zv s.size++s
theorem tdiv10 (n:Nat) (h:n≤9223372036854775807):wrap64 (Int.tdiv (n:Int) 10) = ((n / 10:Nat):Int):=by
 rw [Int.tdiv_eq_ediv_of_nonneg (by omega),Z9 (by omega) (by omega)];omega
theorem tmod10 (n:Nat):(wrap64 (48 + (Int.tmod (n:Int) 10))) % 256 = ((48 + n % 10:Nat):Int):=by
 rw [Int.tmod_eq_emod_of_nonneg (by omega),Z9 (by omega) (by omega)];omega
theorem set_at {α:Type} {a:List α} {n:Nat} (h:a.length = n) (v v':α) (t:List α):(a++v::t).set n v' = a++v'::t:=by
 subst h;rw [List.set_append_right _ _ (Nat.le_refl _)];simp
theorem shortText_size {s:ByteArray} (h:s.size≤34359738367):(ZJ s).size≤s.size + 5:=by
 have:=Z10 h
 rw [ZJ,size_append];omega
theorem cmdOk_sizes {op s q:Int} {key value old:ByteArray} (h:cmdOk op s q key value old = true):(0≤s∧s≤100000)∧(0≤q∧q≤100000)∧key.size≤9∧value.size≤12∧old.size≤12:=by
 unfold cmdOk at h
 simp only [Bool.and_eq_true,Zu,decide_eq_true_eq] at h
 obtain ⟨h1,h2,h3,h4,h5,h6⟩:=h
 refine ⟨h2,h3,?_,h4,h5⟩
 split at h6
 ·simp only [Bool.and_eq_true] at h6
  have:=emp_true.1 h6.2.2.1;omega
 ·simp only [Bool.and_eq_true,Zu] at h6;omega
theorem Z0z (a b:ByteArray):bytesOf (a++b) = bytesOf a++bytesOf b:=by
 unfold bytesOf
 rw [ByteArray.data_append,Array.toList_append,List.map_append]
theorem map_inj {α β:Type} {f:α→β} (hf:∀ x y,f x = f y→x = y):∀ {l l':List α},l.map f = l'.map f→l = l'
 | [],[],_ => rfl
 | [],_::_,h => by simp at h
 | _::_,[],h => by simp at h
 | x::l,y::l',h => by
  simp only [List.map_cons,List.cons.injEq] at h
  rw [hf _ _ h.1,map_inj hf h.2]
theorem bytesOf_inj {a b:ByteArray} (h:bytesOf a = bytesOf b):a = b:=by
 apply ByteArray.ext
 apply Array.toList_inj.1
 unfold bytesOf at h
 exact map_inj (fun x y hxy => UInt8.toNat_inj.1 (Int.ofNat.inj hxy)) h
theorem toList_iff {a b:ByteArray}:a.toList = b.toList↔bytesOf a = bytesOf b:=by
 rw [toList_inj]
 exact ⟨fun h => by rw [h],bytesOf_inj⟩
theorem bytesOf_range (s:ByteArray):∀ x∈bytesOf s,0≤x∧x≤255:=by
 intro x hx
 obtain ⟨b,-,rfl⟩:=List.mem_map.1 hx
 have:=b.toNat_lt
 omega
theorem bytesOf_extract (s:ByteArray) (i j:Nat):bytesOf (s.extract i j) = ((bytesOf s).take j).drop i:=by
 unfold bytesOf
 rw [ByteArray.data_extract,Array.toList_extract,List.extract_eq_take_drop,List.map_take,List.map_drop,List.drop_take]
theorem bytesOf_take (s:ByteArray) (j:Nat) (h:s.size≤j):(bytesOf s).take j = bytesOf s:=List.take_of_length_le (by rw [Zk];exact h)
def val:List Int→Nat
 | [] => 0
 | b::t => (b % 128).toNat + 128 * val t
theorem val_append:∀ (a b:List Int),val (a++b) = val a + 128 ^ a.length * val b
 | [],b => by simp [val]
 | x::a,b => by
  rw [List.cons_append,val,val,val_append a b,List.length_cons,Nat.pow_succ]
  rw [Nat.mul_add,←Nat.mul_assoc,Nat.mul_comm 128 (128 ^ a.length)]
  omega
theorem val_lt:∀ (a:List Int),val a < 128 ^ a.length
 | [] => by simp [val]
 | x::a => by
  have:=val_lt a
  rw [val,List.length_cons,Nat.pow_succ]
  omega
theorem val_varL (n:Nat):val (varL n) = n:=by
 induction n using Nat.strongRecOn with
 | ind n ih =>
  by_cases h:n > 127
  ·rw [varL_big h,val,ih _ (by omega)];omega
  ·rw [varL_small h,val,val];omega
def varSeg:Nat→List Int→Option (List Int)
 | 0,_ => none
 | _ + 1,[] => none
 | k + 1,b::t => if b < 128 then some [b] else (varSeg k t).map (b::·)
theorem varSeg_len:∀ {k:Nat} {l bs:List Int},varSeg k l = some bs→bs.length≤k∧bs.length≤l.length∧l.take bs.length = bs∧bs≠[]
 | 0,_,_,h => by simp [varSeg] at h
 | k + 1,[],_,h => by simp [varSeg] at h
 | k + 1,b::t,bs,h => by
  rw [varSeg] at h
  by_cases hb:b < 128
  ·rw [if_pos hb] at h
   obtain rfl:=Option.some.inj h
   simp
  ·rw [if_neg hb] at h
   obtain ⟨cs,hc,rfl⟩:=Option.map_eq_some_iff.1 h
   obtain ⟨h1,h2,h3,-⟩:=varSeg_len hc
   simp only [List.length_cons]
   exact ⟨by omega,by omega,by rw [List.take_succ_cons,h3],by simp⟩
theorem varSeg_varL (n:Nat) (rest:List Int):∀ (k:Nat),(varL n).length≤k→varSeg k (varL n++rest) = some (varL n):=by
 induction n using Nat.strongRecOn with
 | ind n ih =>
  intro k hk
  obtain ⟨j,rfl⟩:∃ j,k = j + 1:=⟨k - 1,by have:=varL_pos n;omega⟩
  by_cases h:n > 127
  ·rw [varL_big h] at hk ⊢
   rw [List.cons_append,varSeg,if_neg (by omega),ih _ (by omega) j (by simpa using hk)]
   rfl
  ·rw [varL_small h]
   rw [List.cons_append,varSeg,if_pos (by omega)]
theorem varSeg_check:∀ {k:Nat} {l bs:List Int},(∀ x∈l,0≤x∧x≤255)→varSeg k l = some bs→((varL (val bs)).length = bs.length↔varL (val bs) = bs)
 | 0,_,_,_,h => by simp [varSeg] at h
 | k + 1,[],_,_,h => by simp [varSeg] at h
 | k + 1,b::t,bs,hl,h => by
  have hb:=hl b List.mem_cons_self
  rw [varSeg] at h
  by_cases hb':b < 128
  ·rw [if_pos hb'] at h
   obtain rfl:=Option.some.inj h
   have e:val [b] = b.toNat:=by simp only [val];omega
   rw [e,varL_small (by omega)]
   simp;omega
  ·rw [if_neg hb'] at h
   obtain ⟨cs,hc,rfl⟩:=Option.map_eq_some_iff.1 h
   have ih:=varSeg_check (fun x hx => hl x (List.mem_cons_of_mem _ hx)) hc
   have hne:=(varSeg_len hc).2.2.2
   refine ⟨fun h' => ?_,fun h' => by rw [h']⟩
   rw [val] at h' ⊢
   by_cases hv:val cs = 0
   ·rw [hv,varL_small (by omega)] at h'
    simp at h'
    exact absurd h' hne
   ·rw [varL_big (by omega),List.length_cons,List.length_cons] at h'
    rw [show ((b % 128).toNat + 128 * val cs) / 128 = val cs by omega] at h'
    rw [varL_big (by omega),show ((b % 128).toNat + 128 * val cs) / 128 = val cs by omega,ih.1 (by omega)]
    congr 1
    omega
def readVarL (l:List Int):Option (Nat×Nat) :=
 match varSeg 5 l with
 | none => none
 | some bs => if val bs≤1000000000∧varL (val bs) = bs then some (val bs,bs.length) else none
def Zi (s:ByteArray) (at_:Int):Int×Int×Bool :=
 if inR at_ 0 s.size = true then
  match readVarL ((bytesOf s).drop at_.toNat) with
  | some (n,m) => ((n:Int),at_ + (m:Int),true)
  | none => (0,0,false)
 else (0,0,false)
theorem readVarL_some {l:List Int} {n m:Nat} (h:readVarL l = some (n,m)):n≤1000000000∧m = (varL n).length∧l.take m = varL n∧m≤l.length∧1≤m:=by
 unfold readVarL at h
 split at h
 ·cases h
 ·rename_i bs hs
  split at h
  ·rename_i hc
   simp only [Option.some.injEq,Prod.mk.injEq] at h
   obtain ⟨rfl,rfl⟩:=h
   obtain ⟨h1,h2,h3,h4⟩:=varSeg_len hs
   have:=varL_pos (val bs)
   rw [hc.2] at this
   exact ⟨hc.1,by rw [hc.2],by rw [h3,hc.2],h2,this⟩
  ·cases h
theorem readVarL_varL {n:Nat} (hn:n≤1000000000) (rest:List Int):readVarL (varL n++rest) = some (n,(varL n).length):=by
 unfold readVarL
 rw [varSeg_varL n rest 5 (varL_len (by omega))]
 simp only [val_varL]
 rw [if_pos ⟨hn,trivial⟩]
theorem readVar_true {s:ByteArray} {a n b:Int} (h:Zi s a = (n,b,true)):0≤a∧a≤s.size∧a < b∧b≤s.size∧0≤n∧n≤1000000000∧b = a + ((varL n.toNat).length:Int)∧((bytesOf s).drop a.toNat).take (varL n.toNat).length = varL n.toNat:=by
 unfold Zi at h
 split at h
 ·rename_i hr
  have hr:=Zu.1 hr
  split at h
  ·rename_i n' m hm
   simp only [Prod.mk.injEq,and_true] at h
   obtain ⟨rfl,rfl⟩:=h
   obtain ⟨h1,h2,h3,h4,h5⟩:=readVarL_some hm
   rw [List.length_drop,Zk] at h4
   rw [Int.toNat_natCast]
   refine ⟨hr.1,hr.2,by omega,by omega,by omega,by omega,by rw [h2],by rw [←h2];exact h3⟩
  ·simp at h
 ·simp at h
theorem readVar_ok {s:ByteArray} {a:Int} {n:Nat} (ha:0≤a) (ha':a≤s.size) (hn:n≤1000000000) (rest:List Int) (h:(bytesOf s).drop a.toNat = varL n++rest):Zi s a = ((n:Int),a + ((varL n).length:Int),true):=by
 unfold Zi
 rw [if_pos (Zu.2 ⟨ha,ha'⟩),h,readVarL_varL hn]
theorem scale_bound {i:Nat} (h:i≤5):128 ^ i≤34359738368:=by
 rcases i with _ | _ | _ | _ | _ | _ | i
 ·decide
 ·decide
 ·decide
 ·decide
 ·decide
 ·decide
 ·omega
theorem byte_mod {b:Int} (h0:0≤b) (h1:b≤255):Int.tmod (wrap64 b) 128 = b % 128:=by
 rw [Z9 (by omega) (by omega),Int.tmod_eq_emod_of_nonneg h0]
def Z06 (s:ByteArray) (a:Int) (bad:Bool):Int×ByteArray×Int×Bool :=
 if bad = true then (0,s,a,true) else if (Zi s a).2.2 = true then ((Zi s a).1,s,(Zi s a).2.1,bad) else (0,s,a,true)
def curByte (s:ByteArray) (a:Int) (bad:Bool):Int×ByteArray×Int×Bool :=
 if bad = true then (0,s,a,true) else if a≥(s.size:Int) then (0,s,a,true) else (bt s a,s,a + 1,bad)
def curTake (s:ByteArray) (a:Int) (bad:Bool) (n:Int):ByteArray×ByteArray×Int×Bool :=
 if bad = true then (⟨#[]⟩,s,a,true) else if n > (s.size:Int) - a then (⟨#[]⟩,s,a,true) else (s.extract a.toNat (a + n).toNat,s,a + n,bad)
theorem curNum_good {s:ByteArray} {a:Int} {bad:Bool} (h:(Z06 s a bad).2.2.2 = false):bad = false∧Zi s a = ((Z06 s a bad).1,(Z06 s a bad).2.2.1,true):=by
 unfold Z06 at h ⊢
 cases bad
 ·simp only [if_neg (show ¬ (false = true) by decide)] at h ⊢
  cases hb:(Zi s a).2.2
  ·rw [hb] at h;simp at h
  ·simp only [if_true]
   exact ⟨trivial,by rw [←hb]⟩
 ·simp at h
theorem curNum_bad {s:ByteArray} {a:Int} {bad:Bool} (h:(Z06 s a bad).2.2.2 = true):Z06 s a bad = (0,s,a,true):=by
 unfold Z06 at h ⊢
 cases bad
 ·simp only [if_neg (show ¬ (false = true) by decide)] at h ⊢
  cases hb:(Zi s a).2.2
  ·simp
  ·rw [hb] at h;simp at h
 ·simp
theorem Z0W (s:ByteArray) (a:Int) (bad:Bool):(Z06 s a bad).2.1 = s:=by
 unfold Z06;split
 ·rfl
 ·split <;> rfl
theorem curNum_ok {s:ByteArray} {a n b:Int} (h:Zi s a = (n,b,true)):Z06 s a false = (n,s,b,false):=by
 unfold Z06;rw [h];rfl
theorem Z0w {s:ByteArray} {a:Int} {bad:Bool} (h0:0≤a) (h1:a≤s.size):0≤(Z06 s a bad).2.2.1∧(Z06 s a bad).2.2.1≤s.size:=by
 cases h:(Z06 s a bad).2.2.2
 ·obtain ⟨-,hr⟩:=curNum_good h
  have:=readVar_true hr
  omega
 ·rw [curNum_bad h];exact ⟨h0,h1⟩
theorem varTextOf_no {n:Int} (h:¬ n≤1000000000):varTextOf n = (⟨#[]⟩,false):=by
 rw [varTextOf,if_neg (fun e => h (Zu.1 e).2)]
theorem drop_bt {s:ByteArray} {n:Nat} (h:n < s.size):(bytesOf s).drop n = bt s (n:Int)::(bytesOf s).drop (n + 1):=by
 have hz:=Zk s
 rw [List.drop_eq_getElem_cons (by omega)]
 congr 1
 rw [←rd_bytesOf,rd_nat,List.getD_eq_getElem?_getD,List.getElem?_eq_getElem (by omega)];rfl
theorem bytesOf_dropTo {s:ByteArray} {n:Nat}:bytesOf (s.extract n s.size) = (bytesOf s).drop n:=by
 rw [bytesOf_extract,bytesOf_take _ _ (Nat.le_refl _)]
theorem take_cons_drop {l:List Int} {v:List Int} (h:l.take v.length = v):l = v++l.drop v.length:=by
 conv => lhs;rw [←List.take_append_drop v.length l,h]
def At (s:ByteArray) (a:Int) (P:List Int) (b:Int):Prop:=0≤a∧b = a + (P.length:Int)∧b≤s.size∧(bytesOf s).drop a.toNat = P++(bytesOf s).drop b.toNat
theorem At.nil {s:ByteArray} {a:Int} (h0:0≤a) (h1:a≤s.size):At s a [] a:=⟨h0,by simp,h1,by simp⟩
theorem At.mk' {s:ByteArray} {a:Int} {P rest:List Int} (h0:0≤a) (h1:a≤s.size) (h:(bytesOf s).drop a.toNat = P++rest):At s a P (a + (P.length:Int)):=by
 have hl:(bytesOf s).length - a.toNat = P.length + rest.length:=by rw [←List.length_drop,h,List.length_append]
 rw [Zk] at hl
 refine ⟨h0,rfl,by omega,?_⟩
 rw [show (a + (P.length:Int)).toNat = a.toNat + P.length by omega,←List.drop_drop,h]
 simp
theorem At.split {s:ByteArray} {a b:Int} {P Q:List Int} (h:At s a (P++Q) b):At s a P (a + (P.length:Int))∧At s (a + (P.length:Int)) Q b:=by
 obtain ⟨h0,h1,h2,h3⟩:=h
 rw [List.length_append] at h1
 have hA:=At.mk' (s:=s) (a:=a) (P:=P) (rest:=Q++(bytesOf s).drop b.toNat) h0 (by omega) (by rw [h3,List.append_assoc])
 refine ⟨hA,by omega,by omega,h2,?_⟩
 have:=hA.2.2.2
 rw [h3,List.append_assoc] at this
 exact (List.append_cancel_left this).symm
theorem At.trans {s:ByteArray} {a b c:Int} {P Q:List Int} (h:At s a P b) (k:At s b Q c):At s a (P++Q) c:=by
 obtain ⟨h0,h1,h2,h3⟩:=h
 obtain ⟨k0,k1,k2,k3⟩:=k
 exact ⟨h0,by rw [List.length_append];omega,k2,by rw [h3,k3,List.append_assoc]⟩
theorem At.whole (s:ByteArray):At s 0 (bytesOf s) s.size:=by
 have h:=At.mk' (s:=s) (a:=0) (P:=bytesOf s) (rest:=[]) (by omega) (by omega) (by simp)
 rwa [Zk,Int.zero_add] at h
theorem At.all {s:ByteArray} {P:List Int} (h:At s 0 P s.size):bytesOf s = P:=by
 have:=h.2.2.2
 rw [Int.toNat_natCast,List.drop_of_length_le (l:=bytesOf s) (i:=s.size) (by rw [Zk];omega)] at this
 simpa using this
theorem At.le {s:ByteArray} {a b:Int} {P:List Int} (h:At s a P b):0≤a∧a≤b∧b≤s.size∧b = a + (P.length:Int):=⟨h.1,by have:=h.2.1;omega,h.2.2.1,h.2.1⟩
theorem At.size {s:ByteArray} {a b:Int} {P:List Int} (h:At s a P b):a≤s.size:=by have:=h.le;omega
theorem readVar_at {s:ByteArray} {a n b:Int} (h:Zi s a = (n,b,true)):At s a (varL n.toNat) b∧0≤n∧n≤1000000000:=by
 obtain ⟨h1,h2,h3,h4,h5,h6,h7,h8⟩:=readVar_true h
 refine ⟨⟨h1,h7,h4,?_⟩,h5,h6⟩
 have:=take_cons_drop h8
 rw [this,List.drop_drop,show a.toNat + (varL n.toNat).length = b.toNat by omega]
theorem readVar_fwd {s:ByteArray} {a b:Int} {n:Nat} (h:At s a (varL n) b) (hn:n≤1000000000):Zi s a = ((n:Int),b,true):=by
 rw [readVar_ok h.1 h.size hn _ h.2.2.2,←h.2.1]
theorem curNum_sound {s:ByteArray} {a n b:Int} {bad:Bool} {t:ByteArray} (h:Z06 s a bad = (n,t,b,false)):bad = false∧t = s∧At s a (varL n.toNat) b∧0≤n∧n≤1000000000:=by
 have h1:=curNum_good (s:=s) (a:=a) (bad:=bad) (by rw [h])
 have h2:=Z0W s a bad
 rw [h] at h1 h2
 exact ⟨h1.1,h2,readVar_at h1.2⟩
theorem curNum_fwd {s:ByteArray} {a b:Int} {n:Nat} (h:At s a (varL n) b) (hn:n≤1000000000):Z06 s a false = ((n:Int),s,b,false):=curNum_ok (readVar_fwd h hn)
theorem curByte_sound {s:ByteArray} {a n b:Int} {bad:Bool} {t:ByteArray} (h0:0≤a) (h:curByte s a bad = (n,t,b,false)):bad = false∧t = s∧At s a [n] b∧0≤n∧n≤255:=by
 unfold curByte at h
 split at h
 ·simp at h
 ·rename_i hb
  split at h
  ·simp at h
  ·simp only [Prod.mk.injEq] at h
   obtain ⟨rfl,rfl,rfl,-⟩:=h
   have:=bt_range s a
   refine ⟨by simpa using hb,rfl,⟨h0,by simp,by omega,?_⟩,this⟩
   have:=drop_bt (s:=s) (n:=a.toNat) (by omega)
   rw [Int.toNat_of_nonneg h0] at this
   rw [this,show (a + 1).toNat = a.toNat + 1 by omega];rfl
theorem at_bt {s:ByteArray} {a b n:Int} (h:At s a [n] b):bt s a = n∧a < s.size∧b = a + 1:=by
 obtain ⟨h0,h1,h2,h3⟩:=h
 rw [List.length_singleton] at h1
 have e:=drop_bt (s:=s) (n:=a.toNat) (by omega)
 rw [Int.toNat_of_nonneg h0,h3] at e
 exact ⟨(List.cons.inj e).1.symm,by omega,h1⟩
theorem curByte_fwd {s:ByteArray} {a b n:Int} (h:At s a [n] b):curByte s a false = (n,s,b,false):=by
 obtain ⟨h1,h2,h3⟩:=at_bt h
 unfold curByte
 rw [if_neg (by simp),if_neg (by omega),h1,h3]
theorem extract_at {s:ByteArray} {a b:Int} {P:List Int} (h:At s a P b):bytesOf (s.extract a.toNat b.toNat) = P:=by
 obtain ⟨h0,h1,h2,h3⟩:=h
 rw [bytesOf_extract,List.drop_take,h3,show b.toNat - a.toNat = P.length by omega]
 simp
theorem at_extract {s:ByteArray} {a b:Int} (h0:0≤a) (h1:a≤b) (h2:b≤s.size):At s a (bytesOf (s.extract a.toNat b.toNat)) b:=by
 have hz:=Zk s
 have e:bytesOf (s.extract a.toNat b.toNat) = ((bytesOf s).drop a.toNat).take (b.toNat - a.toNat):=by rw [bytesOf_extract,List.drop_take]
 have hl:(bytesOf (s.extract a.toNat b.toNat)).length = b.toNat - a.toNat:=by rw [e,List.length_take,List.length_drop];omega
 refine ⟨h0,by omega,h2,?_⟩
 rw [e]
 conv => lhs;rw [←List.take_append_drop (b.toNat - a.toNat) ((bytesOf s).drop a.toNat)]
 rw [List.drop_drop,show a.toNat + (b.toNat - a.toNat) = b.toNat by omega]
theorem extract_size {s:ByteArray} {a b:Int} (h0:0≤a) (h1:a≤b) (h2:b≤s.size):((s.extract a.toNat b.toNat).size:Int) = b - a:=by
 have:=(at_extract h0 h1 h2).2.1
 rw [Zk] at this;omega
theorem curTake_sound {s:ByteArray} {a n b:Int} {bad:Bool} {r t:ByteArray} (h0:0≤a) (hn:0≤n) (h:curTake s a bad n = (r,t,b,false)):bad = false∧t = s∧At s a (bytesOf r) b∧(r.size:Int) = n:=by
 unfold curTake at h
 split at h
 ·simp at h
 ·rename_i hb
  split at h
  ·simp at h
  ·simp only [Prod.mk.injEq] at h
   obtain ⟨rfl,rfl,rfl,-⟩:=h
   refine ⟨by simpa using hb,rfl,at_extract h0 (by omega) (by omega),?_⟩
   rw [extract_size h0 (by omega) (by omega)];omega
theorem curTake_fwd {s:ByteArray} {a b:Int} {r:ByteArray} (h:At s a (bytesOf r) b):curTake s a false r.size = (r,s,b,false):=by
 have hl:=h.2.1
 rw [Zk] at hl
 have:=h.le
 unfold curTake
 rw [if_neg (by simp),if_neg (by omega),←hl]
 rw [bytesOf_inj (extract_at h)]
theorem curTake_place {s:ByteArray} {a n:Int} {bad:Bool} (h0:0≤a) (h1:a≤s.size) (hn:0≤n):0≤(curTake s a bad n).2.2.1∧(curTake s a bad n).2.2.1≤s.size:=by
 unfold curTake
 split
 ·exact ⟨h0,h1⟩
 ·split
  ·exact ⟨h0,h1⟩
  ·dsimp only;omega
theorem curTake_text (s:ByteArray) (a n:Int) (bad:Bool):(curTake s a bad n).2.1 = s:=by
 unfold curTake;split
 ·rfl
 ·split <;> rfl
theorem curByte_place {s:ByteArray} {a:Int} {bad:Bool} (h0:0≤a) (h1:a≤s.size):0≤(curByte s a bad).2.2.1∧(curByte s a bad).2.2.1≤s.size:=by
 unfold curByte
 split
 ·exact ⟨h0,h1⟩
 ·split
  ·exact ⟨h0,h1⟩
  ·dsimp only;omega
theorem curByte_text (s:ByteArray) (a:Int) (bad:Bool):(curByte s a bad).2.1 = s:=by
 unfold curByte;split
 ·rfl
 ·split <;> rfl
theorem curNum_nonneg (s:ByteArray) (a:Int) (bad:Bool):0≤(Z06 s a bad).1∧(Z06 s a bad).1≤1000000000:=by
 cases h:(Z06 s a bad).2.2.2
 ·obtain ⟨-,hr⟩:=curNum_good h
  have:=readVar_true hr
  omega
 ·rw [curNum_bad h];simp
def readShort (s:ByteArray) (a:Int):ByteArray×Int×Bool :=
 if (Zi s a).2.2 = true then
  if (Zi s a).1 > 20000 then (⟨#[]⟩,0,false) else
  if (Zi s a).1 > (s.size:Int) - (Zi s a).2.1 then (⟨#[]⟩,0,false) else
  (s.extract (Zi s a).2.1.toNat ((Zi s a).2.1 + (Zi s a).1).toNat,(Zi s a).2.1 + (Zi s a).1,true)
 else (⟨#[]⟩,0,false)
def curText (s:ByteArray) (a:Int) (bad:Bool):ByteArray×ByteArray×Int×Bool :=
 if bad = true then (⟨#[]⟩,s,a,true) else if (readShort s a).2.2 = true then ((readShort s a).1,s,(readShort s a).2.1,bad) else (⟨#[]⟩,s,a,true)
def curShort (s:ByteArray) (a:Int) (bad:Bool):ByteArray×ByteArray×Int×Bool:=curTake s (Z06 s a bad).2.2.1 (Z06 s a bad).2.2.2 (Z06 s a bad).1
def sh (t:ByteArray):List Int:=varL t.size++bytesOf t
theorem bytesOf_shortText (t:ByteArray):bytesOf (ZJ t) = sh t:=by rw [ZJ,Z0z,bytesOf_varText,sh]
theorem readShort_sound {s:ByteArray} {a b:Int} {t:ByteArray} (h:readShort s a = (t,b,true)):At s a (sh t) b∧t.size≤20000:=by
 unfold readShort at h
 split at h
 ·rename_i hv
  split at h
  ·simp at h
  ·split at h
   ·simp at h
   ·simp only [Prod.mk.injEq,and_true] at h
    obtain ⟨h1,h2⟩:=h
    obtain ⟨k1,k2,k3⟩:=readVar_at (s:=s) (a:=a) (n:=(Zi s a).1) (b:=(Zi s a).2.1) (by rw [←hv])
    generalize (Zi s a).1 = n at *
    generalize (Zi s a).2.1 = m at *
    have hm:=k1.le
    have k4:=at_extract (s:=s) (a:=m) (b:=m + n) (by omega) (by omega) (by omega)
    have k5:=extract_size (s:=s) (a:=m) (b:=m + n) (by omega) (by omega) (by omega)
    rw [h1] at k4 k5
    subst h2
    have e:n.toNat = t.size:=by omega
    rw [e] at k1
    exact ⟨k1.trans k4,by omega⟩
 ·simp at h
theorem readShort_fwd {s:ByteArray} {a b:Int} {t:ByteArray} (h:At s a (sh t) b) (ht:t.size≤20000):readShort s a = (t,b,true):=by
 obtain ⟨h1,h2⟩:=h.split
 have e:=readVar_fwd h1 (by omega)
 have h3:=h2.2.1
 rw [Zk] at h3
 have:=h2.le
 unfold readShort
 rw [e]
 dsimp only
 rw [if_pos rfl,if_neg (by omega),if_neg (by omega),←h3,bytesOf_inj (extract_at h2)]
theorem curText_sound {s:ByteArray} {a b:Int} {bad:Bool} {r t:ByteArray} (h:curText s a bad = (r,t,b,false)):bad = false∧t = s∧At s a (sh r) b∧r.size≤20000:=by
 unfold curText at h
 split at h
 ·simp at h
 ·rename_i hb
  split at h
  ·rename_i hr
   simp only [Prod.mk.injEq] at h
   obtain ⟨h1,rfl,h2,-⟩:=h
   exact ⟨by simpa using hb,rfl,readShort_sound (by rw [←h1,←h2,←hr])⟩
  ·simp at h
theorem curText_fwd {s:ByteArray} {a b:Int} {t:ByteArray} (h:At s a (sh t) b) (ht:t.size≤20000):curText s a false = (t,s,b,false):=by
 unfold curText
 rw [readShort_fwd h ht];rfl
theorem curText_text (s:ByteArray) (a:Int) (bad:Bool):(curText s a bad).2.1 = s:=by
 unfold curText;split
 ·rfl
 ·split <;> rfl
theorem curText_place {s:ByteArray} {a:Int} {bad:Bool} (h0:0≤a) (h1:a≤s.size):0≤(curText s a bad).2.2.1∧(curText s a bad).2.2.1≤s.size:=by
 cases h:(curText s a bad).2.2.2
 ·have:=(curText_sound (s:=s) (a:=a) (bad:=bad) (r:=(curText s a bad).1) (t:=(curText s a bad).2.1) (b:=(curText s a bad).2.2.1) (by rw [←h])).2.2.1.le
  omega
 ·unfold curText at h ⊢
  split
  ·exact ⟨h0,h1⟩
  ·split
   ·rename_i hb hr
    rw [if_neg hb,if_pos hr] at h
    exact absurd h hb
   ·exact ⟨h0,h1⟩
theorem curShort_text (s:ByteArray) (a:Int) (bad:Bool):(curShort s a bad).2.1 = s:=curTake_text _ _ _ _
theorem curShort_place {s:ByteArray} {a:Int} {bad:Bool} (h0:0≤a) (h1:a≤s.size):0≤(curShort s a bad).2.2.1∧(curShort s a bad).2.2.1≤s.size:=by
 have:=Z0w (s:=s) (a:=a) (bad:=bad) h0 h1
 exact curTake_place this.1 this.2 (curNum_nonneg _ _ _).1
theorem curShort_sound {s:ByteArray} {a b:Int} {bad:Bool} {r t:ByteArray} (h0:0≤a) (h1:a≤s.size) (h:curShort s a bad = (r,t,b,false)):bad = false∧t = s∧At s a (sh r) b:=by
 have hp:=Z0w (s:=s) (a:=a) (bad:=bad) h0 h1
 obtain ⟨k1,k2,k3,k4⟩:=curTake_sound hp.1 (curNum_nonneg _ _ _).1 h
 obtain ⟨m1,-,m3,m4,m5⟩:=curNum_sound (s:=s) (a:=a) (bad:=bad) (n:=(Z06 s a bad).1) (t:=(Z06 s a bad).2.1) (b:=(Z06 s a bad).2.2.1) (by rw [←k1])
 have e:(Z06 s a bad).1.toNat = r.size:=by omega
 rw [e] at m3
 exact ⟨m1,k2,m3.trans k3⟩
theorem curShort_fwd {s:ByteArray} {a b:Int} {t:ByteArray} (h:At s a (sh t) b) (ht:t.size≤1000000000):curShort s a false = (t,s,b,false):=by
 obtain ⟨h1,h2⟩:=h.split
 unfold curShort
 rw [curNum_fwd h1 ht]
 exact curTake_fwd h2
theorem curNum_good' {s:ByteArray} {a:Int} {bad:Bool} (h:(Z06 s a bad).2.2.2 = false):bad = false∧At s a (varL (Z06 s a bad).1.toNat) (Z06 s a bad).2.2.1∧0≤(Z06 s a bad).1∧(Z06 s a bad).1≤1000000000:=by
 have e:Z06 s a bad = ((Z06 s a bad).1,(Z06 s a bad).2.1,(Z06 s a bad).2.2.1,(Z06 s a bad).2.2.2):=rfl
 rw [h] at e;obtain ⟨h1,-,h2⟩:=curNum_sound e;exact ⟨h1,h2⟩
theorem curByte_good' {s:ByteArray} {a:Int} {bad:Bool} (h0:0≤a) (h:(curByte s a bad).2.2.2 = false):bad = false∧At s a [(curByte s a bad).1] (curByte s a bad).2.2.1∧0≤(curByte s a bad).1∧(curByte s a bad).1≤255:=by
 have e:curByte s a bad = ((curByte s a bad).1,(curByte s a bad).2.1,(curByte s a bad).2.2.1,(curByte s a bad).2.2.2):=rfl
 rw [h] at e;obtain ⟨h1,-,h2⟩:=curByte_sound h0 e;exact ⟨h1,h2⟩
theorem curTake_good' {s:ByteArray} {a n:Int} {bad:Bool} (h0:0≤a) (hn:0≤n) (h:(curTake s a bad n).2.2.2 = false):bad = false∧At s a (bytesOf (curTake s a bad n).1) (curTake s a bad n).2.2.1∧((curTake s a bad n).1.size:Int) = n:=by
 have e:curTake s a bad n = ((curTake s a bad n).1,(curTake s a bad n).2.1,(curTake s a bad n).2.2.1,(curTake s a bad n).2.2.2):=rfl
 rw [h] at e;obtain ⟨h1,-,h2⟩:=curTake_sound h0 hn e;exact ⟨h1,h2⟩
theorem curText_good' {s:ByteArray} {a:Int} {bad:Bool} (h:(curText s a bad).2.2.2 = false):bad = false∧At s a (sh (curText s a bad).1) (curText s a bad).2.2.1∧(curText s a bad).1.size≤20000:=by
 have e:curText s a bad = ((curText s a bad).1,(curText s a bad).2.1,(curText s a bad).2.2.1,(curText s a bad).2.2.2):=rfl
 rw [h] at e;obtain ⟨h1,-,h2⟩:=curText_sound e;exact ⟨h1,h2⟩
theorem curShort_good' {s:ByteArray} {a:Int} {bad:Bool} (h0:0≤a) (h1:a≤s.size) (h:(curShort s a bad).2.2.2 = false):bad = false∧At s a (sh (curShort s a bad).1) (curShort s a bad).2.2.1:=by
 have e:curShort s a bad = ((curShort s a bad).1,(curShort s a bad).2.1,(curShort s a bad).2.2.1,(curShort s a bad).2.2.2):=rfl
 rw [h] at e;obtain ⟨h1,-,h2⟩:=curShort_sound h0 h1 e;exact ⟨h1,h2⟩
def cmdBytes (op s q:Int) (k v o:ByteArray):List Int:=[op]++(varL s.toNat++(varL q.toNat++(sh k++(sh v++sh o))))
theorem cmd_parts {s:ByteArray} {op ss q:Int} {k v o:ByteArray} (h:bytesOf s = cmdBytes op ss q k v o) :
  ∃ a2 a3 a4 a5,At s 0 [op] 1∧At s 1 (varL ss.toNat) a2∧At s a2 (varL q.toNat) a3∧At s a3 (sh k) a4∧At s a4 (sh v) a5∧At s a5 (sh o) s.size:=by
 have h0:=At.whole s
 rw [h,cmdBytes] at h0
 obtain ⟨p1,h1⟩:=h0.split
 obtain ⟨p2,h2⟩:=h1.split
 obtain ⟨p3,h3⟩:=h2.split
 obtain ⟨p4,h4⟩:=h3.split
 obtain ⟨p5,h5⟩:=h4.split
 exact ⟨_,_,_,_,p1,p2,p3,p4,p5,h5⟩
abbrev Cmd:=Int×Int×Int×ByteArray×ByteArray×ByteArray×Bool
def noCmd:Cmd:=(0,0,0,⟨#[]⟩,⟨#[]⟩,⟨#[]⟩,false)
def CmdIs (s:ByteArray) (r:Cmd):Prop :=
 (∃ op ss q k v o,r = (op,ss,q,k,v,o,true)∧cmdOk op ss q k v o = true∧bytesOf s = cmdBytes op ss q k v o) ∨
 (r = noCmd∧∀ op ss q k v o,cmdOk op ss q k v o = true→bytesOf s≠cmdBytes op ss q k v o)
theorem int_of_toNat {a b:Int} (ha:0≤a) (hb:0≤b) (h:(a.toNat:Int) = (b.toNat:Int)):a = b:=by omega
theorem CmdIs.one {s:ByteArray} {r r':Cmd} (h:CmdIs s r) (h':CmdIs s r'):r = r':=by
 rcases h with ⟨op,ss,q,k,v,o,rfl,h1,h2⟩ | ⟨rfl,h1⟩
 ·rcases h' with ⟨op',ss',q',k',v',o',rfl,h1',h2'⟩ | ⟨rfl,h1'⟩
  ·obtain ⟨a2,a3,a4,a5,p1,p2,p3,p4,p5,p6⟩:=cmd_parts h2
   obtain ⟨b2,b3,b4,b5,q1,q2,q3,q4,q5,q6⟩:=cmd_parts h2'
   obtain ⟨z1,z2,z3,z4,z5⟩:=cmdOk_sizes h1
   obtain ⟨y1,y2,y3,y4,y5⟩:=cmdOk_sizes h1'
   have e1:=(at_bt p1).1.symm.trans (at_bt q1).1
   have e2:=(curNum_fwd p2 (by omega)).symm.trans (curNum_fwd q2 (by omega))
   simp only [Prod.mk.injEq,and_true,true_and] at e2
   obtain ⟨e2,rfl⟩:=e2
   have e3:=(curNum_fwd p3 (by omega)).symm.trans (curNum_fwd q3 (by omega))
   simp only [Prod.mk.injEq,and_true,true_and] at e3
   obtain ⟨e3,rfl⟩:=e3
   have e4:=(curText_fwd p4 (by omega)).symm.trans (curText_fwd q4 (by omega))
   simp only [Prod.mk.injEq,and_true,true_and] at e4
   obtain ⟨rfl,rfl⟩:=e4
   have e5:=(curText_fwd p5 (by omega)).symm.trans (curText_fwd q5 (by omega))
   simp only [Prod.mk.injEq,and_true,true_and] at e5
   obtain ⟨rfl,rfl⟩:=e5
   have e6:=(curText_fwd p6 (by omega)).symm.trans (curText_fwd q6 (by omega))
   simp only [Prod.mk.injEq,and_true] at e6
   rw [e1,int_of_toNat z1.1 y1.1 e2,int_of_toNat z2.1 y2.1 e3,e6]
  ·exact absurd h2 (h1' _ _ _ _ _ _ h1)
 ·rcases h' with ⟨op',ss',q',k',v',o',rfl,h1',h2'⟩ | ⟨rfl,h1'⟩
  ·exact absurd h2' (h1 _ _ _ _ _ _ h1')
  ·rfl
def To {α:Type} (f:Nat→Option α) (P:α→Prop):Prop:=∃ r,Ev f r∧P r
theorem To.ev {α:Type} {f:Nat→Option α} {P:α→Prop} {a:α} (h:Ev f a) (p:P a):To f P:=⟨a,h,p⟩
theorem To.mono {α:Type} {f:Nat→Option α} {P Q:α→Prop} (h:To f P) (k:∀ a,P a→Q a):To f Q:=by
 obtain ⟨a,e,p⟩:=h;exact ⟨a,e,k a p⟩
theorem To.bind {α β:Type} {f:Nat→Option α} {g:Nat→α→Option β} {P:α→Prop} {Q:β→Prop} (h:To f P) (k:∀ a,P a→To (fun n => g n a) Q):To (fun n => (f n).bind (g n)) Q:=by
 obtain ⟨a,e,p⟩:=h;obtain ⟨b,e',q⟩:=k a p;exact ⟨b,Ev.bind e e',q⟩
theorem To.pos {α:Type} {c:Prop} [Decidable c] {f g:Nat→Option α} {P:α→Prop} (h:c) (k:To f P):To (fun n => if c then f n else g n) P:=by
 simp only [if_pos h];exact k
theorem To.neg {α:Type} {c:Prop} [Decidable c] {f g:Nat→Option α} {P:α→Prop} (h:¬ c) (k:To g P):To (fun n => if c then f n else g n) P:=by
 simp only [if_neg h];exact k
theorem To.ite {α:Type} {c:Prop} [Decidable c] {f g:Nat→Option α} {P:α→Prop} (h:c→To f P) (k:¬ c→To g P):To (fun n => if c then f n else g n) P:=by
 by_cases hc:c
 ·exact To.pos hc (h hc)
 ·exact To.neg hc (k hc)
theorem To.now {α:Type} {P:α→Prop} {a:α} (p:P a):To (fun _ => some a) P:=⟨a,Ev.now _,p⟩
theorem To.step {α:Type} {f g:Nat→Option α} {P:α→Prop} (h:∀ n,f (n + 1) = g n) (k:To g P):To f P:=by
 obtain ⟨a,e,p⟩:=k;exact ⟨a,Ev.step h e,p⟩
theorem To.call {α β:Type} {o:Option α} {g:Nat→α→Option β} {P:α→Prop} {Q:β→Prop} (h:∃ a,o = some a∧P a) (k:∀ a,P a→To (fun n => g n a) Q):To (fun n => o.bind (g n)) Q:=by
 obtain ⟨a,rfl,p⟩:=h;exact k a p
theorem To.at_ {α:Type} {o:Option α} {P:α→Prop} (h:To (fun _ => o) P):∃ a,o = some a∧P a:=by
 obtain ⟨a,e,p⟩:=h;obtain ⟨k,e⟩:=Ev.at_ e;exact ⟨a,e,p⟩
def flagT (b:Bool):ByteArray:=if b = true then ⟨#[1]⟩ else ⟨#[0]⟩
theorem flagT_size (b:Bool):(flagT b).size = 1:=by cases b <;> rfl
def flagL (b:Bool):Int:=if b = true then 1 else 0
theorem bytesOf_flagT (b:Bool):bytesOf (flagT b) = [flagL b]:=by cases b <;> rfl
theorem at_cons {s:ByteArray} {a b n:Int} {Q:List Int} (h:At s a (n::Q) b):At s a [n] (a + 1)∧At s (a + 1) Q b:=At.split (P:=[n]) h
theorem flag_at (ok:Bool):bytesOf (flagT ok) = [flagL ok]∧(flagT ok).size = 1∧((flagT ok).toList == ([1]:List UInt8)) = ok∧(flagL ok == 1) = ok:=by
 cases ok <;> exact ⟨rfl,rfl,by rw [ByteArray.toList_eq];decide,by decide⟩
theorem take_flag {s:ByteArray} {a:Int} {ok:Bool} (h:At s a [flagL ok] (a + 1)):curTake s a false 1 = (flagT ok,s,a + 1,false):=by
 have:=curTake_fwd (r:=flagT ok) (s:=s) (a:=a) (b:=a + 1) (by rw [bytesOf_flagT];exact h)
 rwa [flagT_size] at this
theorem rdOf_drop {xs:List ByteArray} {n:Nat} {x:ByteArray} {t:List ByteArray} (h:xs.drop n = x::t):rdOf ByteArray.empty xs (n:Int) = x:=by
 rw [rdOf,Int.toNat_natCast];exact (Zg h).2.1 _
end Go.Ep
