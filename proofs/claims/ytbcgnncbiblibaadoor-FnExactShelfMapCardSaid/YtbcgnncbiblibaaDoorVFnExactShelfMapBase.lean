/- The declarations of the shared text 'Base' that this claim needs, as the kit's print or this repo's generator wrote them; comments are taken out. -/
import Derived.Test.YtbcgnncbiblibaaDoorVFnExactShelfMapWWords
import Derived.Test.YtbcgnncbiblibaaDoorVFnExactShelfMapWMore
namespace Go.Proofs.YtbcgnncbiblibaaDoor.Base
open Go.RowKit Go.Proofs.YtbcgnncbiblibaaDoorW.PrintWords
theorem wrap64_id {n : Int} (h0 : -9223372036854775808 ≤ n) (h1 : n ≤ 9223372036854775807) : wrap64 n = n := by
 unfold wrap64;omega
theorem wrap64_succ {n : Nat} (h : n ≤ 9223372036854775806) : wrap64 ((n : Int) + 1) = ((n + 1 : Nat) : Int) := by
 unfold wrap64;omega
theorem wrap64_pred {n : Nat} (h : n ≤ 9223372036854775806) : wrap64 (((n + 1 : Nat) : Int) - 1) = (n : Int) := by
 unfold wrap64;omega
theorem Ev.pos {α : Type} {c : Prop} [Decidable c] {f g : Nat → Option α} {r : α} (h : c) (k : Ev f r) : Ev (fun n => if c then f n else g n) r := by
 simp only [if_pos h];exact k
theorem Ev.neg {α : Type} {c : Prop} [Decidable c] {f g : Nat → Option α} {r : α} (h : ¬ c) (k : Ev g r) : Ev (fun n => if c then f n else g n) r := by
 simp only [if_neg h];exact k
theorem Ev.ite {α : Type} {c : Prop} [Decidable c] {f g : Nat → Option α} {r : α} (h : c → Ev f r) (k : ¬ c → Ev g r) : Ev (fun n => if c then f n else g n) r := by
 by_cases hc : c
 ·exact Ev.pos hc (h hc)
 ·exact Ev.neg hc (k hc)
theorem Ev.call {α β : Type} {o : Option α} {f : Nat → α → Option β} {a : α} {r : β} (h : o = some a) (k : Ev (fun n => f n a) r) : Ev (fun n => o.bind (f n)) r := by
 subst h;exact k
theorem Ev.done {α : Type} {a r : α} (h : a = r) : Ev (fun _ => some a) r := by subst h; exact Ev.now _
theorem Ev.eq {α : Type} {g : Nat → Option α} {a r : α} (h : Ev g a) (e : a = r) : Ev g r := e ▸ h
theorem Ev.at_ {α : Type} {g : Nat → Option α} {a : α} (h : Ev g a) : ∃ k, g k = some a := Ev.rounds h
def inR (a b c : Int) : Bool := decide (b ≤ a ∧ a ≤ c)
theorem inR_true {a b c : Int} : inR a b c = true ↔ b ≤ a ∧ a ≤ c := by simp [inR]
theorem rd_nat (xs : List Int) (n : Nat) : rd xs (n : Int) = xs.getD n 0 := by simp [rd]
theorem drop_cons {α : Type} {xs : List α} {n : Nat} {x : α} {t : List α} (h : xs.drop n = x :: t) : n < xs.length ∧ (∀ d, xs.getD n d = x) ∧ xs.drop (n + 1) = t := by
 have hn : n < xs.length:=by
  rcases Nat.lt_or_ge n xs.length with h1|h1
  ·exact h1
  ·rw [List.drop_eq_nil_of_le h1] at h;cases h
 rw [List.drop_eq_getElem_cons hn] at h
 injection h with h1 h2
 exact ⟨hn,fun d => by rw [List.getD_eq_getElem?_getD,List.getElem?_eq_getElem hn];simpa using h1,h2⟩
theorem drop_nil {α : Type} {xs : List α} {n : Nat} (h : xs.drop n = []) : xs.length ≤ n := by simpa using h
def upFrom : Int → Nat → List Int
 | _,0 => []
 | m,n + 1 => m :: upFrom (m + 1) n
theorem upFrom_length : ∀ (n : Nat) (m : Int), (upFrom m n).length = n
 | 0,_ => rfl
 | n + 1,m => by simp [upFrom,upFrom_length n]
theorem set_fill {α : Type} (ys : List α) (n d : Nat) (z v : α) (h : n + (d + 1) = ys.length) (hv : ys[n]? = some v) : (ys.take n ++ List.replicate (d + 1) z).set n v = ys.take (n + 1) ++ List.replicate d z := by
 apply List.ext_getElem?
 intro i
 have hl : (ys.take n).length = n:=by rw [List.length_take];omega
 rw [List.getElem?_set]
 by_cases hi : n = i
 ·subst hi;rw [if_pos rfl,if_pos (by simp;omega),List.getElem?_append_left (by rw [List.length_take];omega),List.getElem?_take,if_pos (by omega),hv]
 ·rw [if_neg hi]
  rcases Nat.lt_or_ge i n with h1|h1
  ·rw [List.getElem?_append_left (by omega),List.getElem?_append_left (by rw [List.length_take];omega),List.getElem?_take,List.getElem?_take,if_pos h1,if_pos (by omega)]
  ·rw [List.getElem?_append_right (by omega),List.getElem?_append_right (by rw [List.length_take];omega),hl,List.length_take,Nat.min_eq_left (by omega),List.getElem?_replicate,List.getElem?_replicate]
   by_cases h2 : i - n < d + 1
   ·rw [if_pos h2,if_pos (by omega)]
   ·rw [if_neg h2,if_neg (by omega)]
theorem getD_get {α : Type} {xs : List α} {n : Nat} {z : α} (h : n < xs.length) : xs[n]? = some (xs.getD n z) := by
 rw [List.getD_eq_getElem?_getD,List.getElem?_eq_getElem h];rfl
theorem upFrom_snoc : ∀ (n : Nat) (m : Int), upFrom m (n + 1) = upFrom m n ++ [m + n]
 | 0,m => by simp [upFrom]
 | n + 1,m => by
  rw [upFrom,upFrom_snoc n (m + 1),upFrom]
  simp;omega
theorem set_mark {α : Type} (a : List α) (x v : α) (t : List α) (n : Nat) (h : a.length = n) : (a ++ x :: t).set n v = a ++ [v] ++ t := by
 subst h;rw [List.set_append_right _ _ (Nat.le_refl _)];simp
theorem size_append (a b : ByteArray) : (a ++ b).size = a.size + b.size := ByteArray.size_append
def varL (n : Nat) : List Int := if n > 127 then ((n % 128 + 128 : Nat) : Int) :: varL (n / 128) else [(n : Int)]
termination_by n
decreasing_by omega
def varText (n : Nat) : ByteArray := strOfNums (varL n)
theorem varL_big {n : Nat} (h : n > 127) : varL n = ((n % 128 + 128 : Nat) : Int) :: varL (n / 128) := by rw [varL, if_pos h]
theorem varL_small {n : Nat} (h : ¬ n > 127) : varL n = [(n : Int)] := by rw [varL, if_neg h]
theorem varL_le : ∀ (j n : Nat), n < 128 ^ (j + 1) → (varL n).length ≤ j + 1
 | 0,n,h => by rw [varL_small (by omega)];simp
 | j + 1,n,h => by
  by_cases hn : n > 127
  ·rw [varL_big hn];have:=varL_le j (n / 128) (by rw [Nat.div_lt_iff_lt_mul (by omega)];rw [Nat.pow_succ] at h;exact h)
   simp;omega
  ·rw [varL_small hn];simp
theorem varL_len {n : Nat} (h : n ≤ 34359738367) : (varL n).length ≤ 5 := varL_le 4 n (by omega)
theorem varL_pos (n : Nat) : 1 ≤ (varL n).length := by
 by_cases hn : n > 127
 ·rw [varL_big hn];simp
 ·rw [varL_small hn];simp
def sumBit (s : Int) : Int := if Int.tmod s 2 = 1 then Go.bits .xor .u32 ((Int.tdiv s 2) % 4294967296) 3558460437 else (Int.tdiv s 2) % 4294967296
def sumBits : Nat → Int → Int
 | 0,s => s
 | n + 1,s => sumBits n (sumBit s)
def sumMore (s : Int) : List Int → Int
 | [] => s
 | b :: t => sumMore (sumBits 8 (Go.bits .xor .u32 s (b % 4294967296))) t
def sumOf (s : ByteArray) : Int := sumMore 4294967295 (bytesOf s)
def four (x : Int) : ByteArray := strOfNums [(x / 16777216) % 256, (x / 65536) % 256, (x / 256) % 256, x % 256]
def frame (s : ByteArray) : ByteArray × Bool := if inR s.size 1 9000 = true then (varText s.size ++ four (sumOf s) ++ s, true) else (⟨#[]⟩, false)
theorem toList_inj {a b : ByteArray} : a.toList = b.toList ↔ a = b := by
 constructor
 ·intro h;rw [ByteArray.toList_eq,ByteArray.toList_eq] at h;exact ByteArray.ext (Array.toList_inj.1 h)
 ·intro h;rw [h]
theorem toList_nil {a : ByteArray} : a.toList = [] ↔ a.size = 0 := by
 rw [ByteArray.toList_eq,← List.length_eq_zero_iff,data_length]
def emp (s : ByteArray) : Bool := s.toList == ([] : List UInt8)
theorem emp_true {s : ByteArray} : emp s = true ↔ s.size = 0 := by
 unfold emp;rw [beq_iff_eq,toList_nil]
def cmdOk (op s q : Int) (key value old : ByteArray) : Bool :=
 inR op 1 5 && (inR s 0 100000 && (inR q 0 100000 && (decide (value.size ≤ 12) && (decide (old.size ≤ 12) &&
  (if op = 1 then s == 0 && (q == 0 && (emp key && (emp value && emp old)))
  else inR key.size 1 9 && (if op = 2 ∨ op = 4 then emp value && emp old else if op = 3 then emp old else true))))))
def markTextL (n : Nat) (acc : ByteArray) : ByteArray := if n > 0 then markTextL (n / 10) (strOfNums [((48 + n % 10 : Nat) : Int)] ++ acc) else ⟨#[109]⟩ ++ acc
termination_by n
decreasing_by omega
def markTextOf (m : Int) : ByteArray := if m ≤ 0 then ⟨#[109, 48]⟩ else markTextL m.toNat ⟨#[]⟩
theorem tdiv10 (n : Nat) (h : n ≤ 9223372036854775807) : wrap64 (Int.tdiv (n : Int) 10) = ((n / 10 : Nat) : Int) := by
 rw [Int.tdiv_eq_ediv_of_nonneg (by omega),wrap64_id (by omega) (by omega)];omega
theorem tmod10 (n : Nat) : (wrap64 (48 + (Int.tmod (n : Int) 10))) % 256 = ((48 + n % 10 : Nat) : Int) := by
 rw [Int.tmod_eq_emod_of_nonneg (by omega),wrap64_id (by omega) (by omega)];omega
theorem set_at {α : Type} {a : List α} {n : Nat} (h : a.length = n) (v v' : α) (t : List α) : (a ++ v :: t).set n v' = a ++ v' :: t := by
 subst h;rw [List.set_append_right _ _ (Nat.le_refl _)];simp
theorem getD_at {α : Type} {a : List α} {n : Nat} (h : a.length = n) (v : α) (t : List α) (z : α) : (a ++ v :: t).getD n z = v := by
 subst h;simp [List.getD_eq_getElem?_getD]
theorem cmdOk_sizes {op s q : Int} {key value old : ByteArray} (h : cmdOk op s q key value old = true) : (0 ≤ s ∧ s ≤ 100000) ∧ (0 ≤ q ∧ q ≤ 100000) ∧ key.size ≤ 9 ∧ value.size ≤ 12 ∧ old.size ≤ 12 := by
 unfold cmdOk at h
 simp only [Bool.and_eq_true,inR_true,decide_eq_true_eq] at h;obtain ⟨h1,h2,h3,h4,h5,h6⟩:=h;refine ⟨h2,h3,?_,h4,h5⟩
 split at h6
 ·simp only [Bool.and_eq_true] at h6;have:=emp_true.1 h6.2.2.1;omega
 ·simp only [Bool.and_eq_true,inR_true] at h6;omega
theorem map_inj {α β : Type} {f : α → β} (hf : ∀ x y, f x = f y → x = y) : ∀ {l l' : List α}, l.map f = l'.map f → l = l'
 | [],[],_ => rfl
 | [],_ :: _,h => by simp at h
 | _ :: _,[],h => by simp at h
 | x :: l,y :: l',h => by
  simp only [List.map_cons,List.cons.injEq] at h;rw [hf _ _ h.1,map_inj hf h.2]
theorem bytesOf_inj {a b : ByteArray} (h : bytesOf a = bytesOf b) : a = b := by
 apply ByteArray.ext
 apply Array.toList_inj.1
 unfold bytesOf at h
 exact map_inj (fun x y hxy => UInt8.toNat_inj.1 (Int.ofNat.inj hxy)) h
theorem bytesOf_extract (s : ByteArray) (i j : Nat) : bytesOf (s.extract i j) = ((bytesOf s).take j).drop i := by
 unfold bytesOf
 rw [ByteArray.data_extract,Array.toList_extract,List.extract_eq_take_drop,List.map_take,List.map_drop,List.drop_take]
def val : List Int → Nat
 | [] => 0
 | b :: t => (b % 128).toNat + 128 * val t
theorem val_varL (n : Nat) : val (varL n) = n := by
 induction n using Nat.strongRecOn with
 | ind n ih =>
  by_cases h : n > 127
  ·rw [varL_big h,val,ih _ (by omega)];omega
  ·rw [varL_small h,val,val];omega
def varSeg : Nat → List Int → Option (List Int)
 | 0,_ => none
 | _ + 1,[] => none
 | k + 1,b :: t => if b < 128 then some [b] else (varSeg k t).map (b :: ·)
theorem varSeg_varL (n : Nat) (rest : List Int) : ∀ (k : Nat), (varL n).length ≤ k → varSeg k (varL n ++ rest) = some (varL n) := by
 induction n using Nat.strongRecOn with
 | ind n ih =>
  intro k hk;obtain ⟨j,rfl⟩ : ∃ j,k = j + 1:=⟨k - 1,by have:=varL_pos n;omega⟩
  by_cases h : n > 127
  ·rw [varL_big h] at hk ⊢;rw [List.cons_append,varSeg,if_neg (by omega),ih _ (by omega) j (by simpa using hk)];rfl
  ·rw [varL_small h];rw [List.cons_append,varSeg,if_pos (by omega)]
def readVarL (l : List Int) : Option (Nat × Nat) :=
 match varSeg 5 l with
 | none => none
 | some bs => if val bs ≤ 1000000000 ∧ varL (val bs) = bs then some (val bs,bs.length) else none
def readVar (s : ByteArray) (at_ : Int) : Int × Int × Bool :=
 if inR at_ 0 s.size = true then
  match readVarL ((bytesOf s).drop at_.toNat) with
  | some (n,m) => ((n : Int),at_ + (m : Int),true)
  | none => (0,0,false)
 else (0,0,false)
theorem readVarL_varL {n : Nat} (hn : n ≤ 1000000000) (rest : List Int) : readVarL (varL n ++ rest) = some (n, (varL n).length) := by
 unfold readVarL
 rw [varSeg_varL n rest 5 (varL_len (by omega))];simp only [val_varL];rw [if_pos ⟨hn,trivial⟩]
theorem readVar_ok {s : ByteArray} {a : Int} {n : Nat} (ha : 0 ≤ a) (ha' : a ≤ s.size) (hn : n ≤ 1000000000) (rest : List Int) (h : (bytesOf s).drop a.toNat = varL n ++ rest) : readVar s a = ((n : Int), a + ((varL n).length : Int), true) := by
 unfold readVar
 rw [if_pos (inR_true.2 ⟨ha,ha'⟩),h,readVarL_varL hn]
def curNum (s : ByteArray) (a : Int) (bad : Bool) : Int × ByteArray × Int × Bool :=
 if bad = true then (0,s,a,true) else if (readVar s a).2.2 = true then ((readVar s a).1,s,(readVar s a).2.1,bad) else (0,s,a,true)
theorem curNum_ok {s : ByteArray} {a n b : Int} (h : readVar s a = (n, b, true)) : curNum s a false = (n, s, b, false) := by
 unfold curNum;rw [h];rfl
theorem drop_bt {s : ByteArray} {n : Nat} (h : n < s.size) : (bytesOf s).drop n = bt s (n : Int) :: (bytesOf s).drop (n + 1) := by
 have hz:=bytesOf_length s;rw [List.drop_eq_getElem_cons (by omega)]
 congr 1
 rw [← rd_bytesOf,rd_nat,List.getD_eq_getElem?_getD,List.getElem?_eq_getElem (by omega)];rfl
def At (s : ByteArray) (a : Int) (P : List Int) (b : Int) : Prop := 0 ≤ a ∧ b = a + (P.length : Int) ∧ b ≤ s.size ∧ (bytesOf s).drop a.toNat = P ++ (bytesOf s).drop b.toNat
theorem At.nil {s : ByteArray} {a : Int} (h0 : 0 ≤ a) (h1 : a ≤ s.size) : At s a [] a := ⟨h0, by simp, h1, by simp⟩
theorem At.mk' {s : ByteArray} {a : Int} {P rest : List Int} (h0 : 0 ≤ a) (h1 : a ≤ s.size) (h : (bytesOf s).drop a.toNat = P ++ rest) : At s a P (a + (P.length : Int)) := by
 have hl : (bytesOf s).length - a.toNat = P.length + rest.length:=by rw [← List.length_drop,h,List.length_append]
 rw [bytesOf_length] at hl;refine ⟨h0,rfl,by omega,?_⟩;rw [show (a + (P.length : Int)).toNat = a.toNat + P.length by omega,← List.drop_drop,h]
 simp
theorem At.split {s : ByteArray} {a b : Int} {P Q : List Int} (h : At s a (P ++ Q) b) : At s a P (a + (P.length : Int)) ∧ At s (a + (P.length : Int)) Q b := by
 obtain ⟨h0,h1,h2,h3⟩:=h;rw [List.length_append] at h1;have hA:=At.mk' (s:=s) (a:=a) (P:=P) (rest:=Q ++ (bytesOf s).drop b.toNat) h0 (by omega) (by rw [h3,List.append_assoc]);refine ⟨hA,by omega,by omega,h2,?_⟩;have:=hA.2.2.2;rw [h3,List.append_assoc] at this;exact (List.append_cancel_left this).symm
theorem At.trans {s : ByteArray} {a b c : Int} {P Q : List Int} (h : At s a P b) (k : At s b Q c) : At s a (P ++ Q) c := by
 obtain ⟨h0,h1,h2,h3⟩:=h;obtain ⟨k0,k1,k2,k3⟩:=k;exact ⟨h0,by rw [List.length_append];omega,k2,by rw [h3,k3,List.append_assoc]⟩
theorem At.whole (s : ByteArray) : At s 0 (bytesOf s) s.size := by
 have h:=At.mk' (s:=s) (a:=0) (P:=bytesOf s) (rest:=[]) (by omega) (by omega) (by simp)
 rwa [bytesOf_length,Int.zero_add] at h
theorem At.all {s : ByteArray} {P : List Int} (h : At s 0 P s.size) : bytesOf s = P := by
 have:=h.2.2.2;rw [Int.toNat_natCast,List.drop_of_length_le (l:=bytesOf s) (i:=s.size) (by rw [bytesOf_length];omega)] at this
 simpa using this
theorem At.le {s : ByteArray} {a b : Int} {P : List Int} (h : At s a P b) : 0 ≤ a ∧ a ≤ b ∧ b ≤ s.size ∧ b = a + (P.length : Int) := ⟨h.1, by have := h.2.1; omega, h.2.2.1, h.2.1⟩
theorem At.size {s : ByteArray} {a b : Int} {P : List Int} (h : At s a P b) : a ≤ s.size := by have := h.le; omega
theorem readVar_fwd {s : ByteArray} {a b : Int} {n : Nat} (h : At s a (varL n) b) (hn : n ≤ 1000000000) : readVar s a = ((n : Int), b, true) := by
 rw [readVar_ok h.1 h.size hn _ h.2.2.2,← h.2.1]
theorem curNum_fwd {s : ByteArray} {a b : Int} {n : Nat} (h : At s a (varL n) b) (hn : n ≤ 1000000000) : curNum s a false = ((n : Int), s, b, false) := curNum_ok (readVar_fwd h hn)
theorem at_bt {s : ByteArray} {a b n : Int} (h : At s a [n] b) : bt s a = n ∧ a < s.size ∧ b = a + 1 := by
 obtain ⟨h0,h1,h2,h3⟩:=h;rw [List.length_singleton] at h1;have e:=drop_bt (s:=s) (n:=a.toNat) (by omega);rw [Int.toNat_of_nonneg h0,h3] at e;exact ⟨(List.cons.inj e).1.symm,by omega,h1⟩
theorem extract_at {s : ByteArray} {a b : Int} {P : List Int} (h : At s a P b) : bytesOf (s.extract a.toNat b.toNat) = P := by
 obtain ⟨h0,h1,h2,h3⟩:=h;rw [bytesOf_extract,List.drop_take,h3,show b.toNat - a.toNat = P.length by omega]
 simp
def readShort (s : ByteArray) (a : Int) : ByteArray × Int × Bool :=
 if (readVar s a).2.2 = true then
  if (readVar s a).1 > 20000 then (⟨#[]⟩,0,false) else
  if (readVar s a).1 > (s.size : Int) - (readVar s a).2.1 then (⟨#[]⟩,0,false) else
  (s.extract (readVar s a).2.1.toNat ((readVar s a).2.1 + (readVar s a).1).toNat,(readVar s a).2.1 + (readVar s a).1,true)
 else (⟨#[]⟩,0,false)
def curText (s : ByteArray) (a : Int) (bad : Bool) : ByteArray × ByteArray × Int × Bool :=
 if bad = true then (⟨#[]⟩,s,a,true) else if (readShort s a).2.2 = true then ((readShort s a).1,s,(readShort s a).2.1,bad) else (⟨#[]⟩,s,a,true)
def sh (t : ByteArray) : List Int := varL t.size ++ bytesOf t
theorem readShort_fwd {s : ByteArray} {a b : Int} {t : ByteArray} (h : At s a (sh t) b) (ht : t.size ≤ 20000) : readShort s a = (t, b, true) := by
 obtain ⟨h1,h2⟩:=h.split;have e:=readVar_fwd h1 (by omega);have h3:=h2.2.1;rw [bytesOf_length] at h3;have:=h2.le
 unfold readShort
 rw [e];dsimp only;rw [if_pos rfl,if_neg (by omega),if_neg (by omega),← h3,bytesOf_inj (extract_at h2)]
theorem curText_fwd {s : ByteArray} {a b : Int} {t : ByteArray} (h : At s a (sh t) b) (ht : t.size ≤ 20000) : curText s a false = (t, s, b, false) := by
 unfold curText
 rw [readShort_fwd h ht];rfl
def cmdBytes (op s q : Int) (k v o : ByteArray) : List Int := [op] ++ (varL s.toNat ++ (varL q.toNat ++ (sh k ++ (sh v ++ sh o))))
theorem cmd_parts {s : ByteArray} {op ss q : Int} {k v o : ByteArray} (h : bytesOf s = cmdBytes op ss q k v o) :
  ∃ a2 a3 a4 a5,At s 0 [op] 1 ∧ At s 1 (varL ss.toNat) a2 ∧ At s a2 (varL q.toNat) a3 ∧ At s a3 (sh k) a4 ∧ At s a4 (sh v) a5 ∧ At s a5 (sh o) s.size:=by
 have h0:=At.whole s;rw [h,cmdBytes] at h0;obtain ⟨p1,h1⟩:=h0.split;obtain ⟨p2,h2⟩:=h1.split;obtain ⟨p3,h3⟩:=h2.split;obtain ⟨p4,h4⟩:=h3.split;obtain ⟨p5,h5⟩:=h4.split;exact ⟨_,_,_,_,p1,p2,p3,p4,p5,h5⟩
abbrev Cmd := Int × Int × Int × ByteArray × ByteArray × ByteArray × Bool
def noCmd : Cmd := (0, 0, 0, ⟨#[]⟩, ⟨#[]⟩, ⟨#[]⟩, false)
def CmdIs (s : ByteArray) (r : Cmd) : Prop :=
 (∃ op ss q k v o,r = (op,ss,q,k,v,o,true) ∧ cmdOk op ss q k v o = true ∧ bytesOf s = cmdBytes op ss q k v o) ∨
 (r = noCmd ∧ ∀ op ss q k v o,cmdOk op ss q k v o = true → bytesOf s ≠ cmdBytes op ss q k v o)
theorem int_of_toNat {a b : Int} (ha : 0 ≤ a) (hb : 0 ≤ b) (h : (a.toNat : Int) = (b.toNat : Int)) : a = b := by omega
theorem CmdIs.one {s : ByteArray} {r r' : Cmd} (h : CmdIs s r) (h' : CmdIs s r') : r = r' := by
 rcases h with ⟨op,ss,q,k,v,o,rfl,h1,h2⟩|⟨rfl,h1⟩
 ·rcases h' with ⟨op',ss',q',k',v',o',rfl,h1',h2'⟩|⟨rfl,h1'⟩
  ·obtain ⟨a2,a3,a4,a5,p1,p2,p3,p4,p5,p6⟩:=cmd_parts h2;obtain ⟨b2,b3,b4,b5,q1,q2,q3,q4,q5,q6⟩:=cmd_parts h2';obtain ⟨z1,z2,z3,z4,z5⟩:=cmdOk_sizes h1;obtain ⟨y1,y2,y3,y4,y5⟩:=cmdOk_sizes h1';have e1:=(at_bt p1).1.symm.trans (at_bt q1).1;have e2:=(curNum_fwd p2 (by omega)).symm.trans (curNum_fwd q2 (by omega));simp only [Prod.mk.injEq,and_true,true_and] at e2;obtain ⟨e2,rfl⟩:=e2;have e3:=(curNum_fwd p3 (by omega)).symm.trans (curNum_fwd q3 (by omega));simp only [Prod.mk.injEq,and_true,true_and] at e3;obtain ⟨e3,rfl⟩:=e3;have e4:=(curText_fwd p4 (by omega)).symm.trans (curText_fwd q4 (by omega));simp only [Prod.mk.injEq,and_true,true_and] at e4;obtain ⟨rfl,rfl⟩:=e4;have e5:=(curText_fwd p5 (by omega)).symm.trans (curText_fwd q5 (by omega));simp only [Prod.mk.injEq,and_true,true_and] at e5;obtain ⟨rfl,rfl⟩:=e5;have e6:=(curText_fwd p6 (by omega)).symm.trans (curText_fwd q6 (by omega));simp only [Prod.mk.injEq,and_true] at e6;rw [e1,int_of_toNat z1.1 y1.1 e2,int_of_toNat z2.1 y2.1 e3,e6]
  ·exact absurd h2 (h1' _ _ _ _ _ _ h1)
 ·rcases h' with ⟨op',ss',q',k',v',o',rfl,h1',h2'⟩|⟨rfl,h1'⟩
  ·exact absurd h2' (h1 _ _ _ _ _ _ h1')
  ·rfl
def To {α : Type} (f : Nat → Option α) (P : α → Prop) : Prop := ∃ r, Ev f r ∧ P r
theorem To.mono {α : Type} {f : Nat → Option α} {P Q : α → Prop} (h : To f P) (k : ∀ a, P a → Q a) : To f Q := by
 obtain ⟨a,e,p⟩:=h;exact ⟨a,e,k a p⟩
theorem To.bind {α β : Type} {f : Nat → Option α} {g : Nat → α → Option β} {P : α → Prop} {Q : β → Prop} (h : To f P) (k : ∀ a, P a → To (fun n => g n a) Q) : To (fun n => (f n).bind (g n)) Q := by
 obtain ⟨a,e,p⟩:=h;obtain ⟨b,e',q⟩:=k a p;exact ⟨b,Ev.bind e e',q⟩
theorem To.pos {α : Type} {c : Prop} [Decidable c] {f g : Nat → Option α} {P : α → Prop} (h : c) (k : To f P) : To (fun n => if c then f n else g n) P := by
 simp only [if_pos h];exact k
theorem To.neg {α : Type} {c : Prop} [Decidable c] {f g : Nat → Option α} {P : α → Prop} (h : ¬ c) (k : To g P) : To (fun n => if c then f n else g n) P := by
 simp only [if_neg h];exact k
theorem To.ite {α : Type} {c : Prop} [Decidable c] {f g : Nat → Option α} {P : α → Prop} (h : c → To f P) (k : ¬ c → To g P) : To (fun n => if c then f n else g n) P := by
 by_cases hc : c
 ·exact To.pos hc (h hc)
 ·exact To.neg hc (k hc)
theorem To.now {α : Type} {P : α → Prop} {a : α} (p : P a) : To (fun _ => some a) P := ⟨a, Ev.now _, p⟩
theorem To.step {α : Type} {f g : Nat → Option α} {P : α → Prop} (h : ∀ n, f (n + 1) = g n) (k : To g P) : To f P := by
 obtain ⟨a,e,p⟩:=k;exact ⟨a,Ev.step h e,p⟩
theorem To.call {α β : Type} {o : Option α} {g : Nat → α → Option β} {P : α → Prop} {Q : β → Prop} (h : ∃ a, o = some a ∧ P a) (k : ∀ a, P a → To (fun n => g n a) Q) : To (fun n => o.bind (g n)) Q := by
 obtain ⟨a,rfl,p⟩:=h;exact k a p
theorem To.at_ {α : Type} {o : Option α} {P : α → Prop} (h : To (fun _ => o) P) : ∃ a, o = some a ∧ P a := by
 obtain ⟨a,e,p⟩:=h;obtain ⟨k,e⟩:=Ev.at_ e;exact ⟨a,e,p⟩
end Go.Proofs.YtbcgnncbiblibaaDoor.Base
