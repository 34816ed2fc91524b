/- The law FnExactEncode answers true: the program's Encode returns what the reference's returns, and leaves its argument as it was. For all arguments; no further condition. -/
import Derived.Test.YtgpafelepkhdoaaPFnExactEncodex12
import Derived.Test.YtgpafelepkhdoaaVFnExactEncodeBase
namespace Go.Proofs.Ytgpafelepkhdoaa.Pure
open Go.RowKit Go.Proofs.Ytgpafelepkhdoaa.PFnExactEncode Go.Proofs.YtgpafelepkhdoaaW.PrintWords Go.Proofs.YtgpafelepkhdoaaW.PrintLast Go.Proofs.Ytgpafelepkhdoaa.Base
set_option linter.unusedVariables false
theorem rdT167_drop {xs : List S167} {n : Nat} {x : S167} {t : List S167} (h : xs.drop n = x :: t) : rd_T167 xs (n : Int) = x := by
 unfold rd_T167
 rw [Int.toNat_natCast];exact (drop_cons h).2.1 _
theorem rdT167_get {xs : List S167} {n : Nat} (h : n < xs.length) : xs[n]? = some (rd_T167 xs (n : Int)) := by
 unfold rd_T167
 rw [Int.toNat_natCast];exact getD_get h
theorem rdT37_drop {xs : List S37} {n : Nat} {x : S37} {t : List S37} (h : xs.drop n = x :: t) : rd_T37 xs (n : Int) = x := by
 unfold rd_T37
 rw [Int.toNat_natCast];exact (drop_cons h).2.1 _
def entriesIn (t T : Int) : List S37 → Bool
 | [] => true
 | e :: r => entryOk e.f0 e.f1 e.f2 && (decide (t ≤ e.f0) && (decide (e.f0 ≤ T) && entriesIn e.f0 T r))
def msgOk (kd fr tt tm ix lt cm : Int) (ok : Bool) (es : List S37) (cf : List Int) (da : ByteArray) (la : Bool) : Bool :=
 inR kd 1 6 && (inR fr 1 4 && (inR tt 1 4 && (!(fr == tt) && (inR tm 0 100000 && (inR lt 0 100000 && (inR ix 0 100000 && (inR cm 0 100000 && (decide (es.length ≤ 4) && (decide (es.length = 0 ∨ kd = 3) && (entriesIn lt tm es &&
  (if kd = 5 then confOk cf && decide (da.size ≤ 60) else decide (cf.length = 0) && (emp da && !la))))))))))))
theorem laws_szEntry_some (x0 : Int) (x1 : Int) (x2 : ByteArray) (c : Int) (hc0 : 0 ≤ c) (hc : c ≤ 1048576) (h2 : x2.size ≤ 140737488351232) :
  ∃ r,laws_szEntry.f x0 x1 x2 c = some r ∧ (¬ r < 0 → r = c - ((x2.size : Nat) : Int)):=by
 unfold laws_szEntry.f wrap64
 by_cases c0 : (c - (x2.size : Int) + 9223372036854775808) % 18446744073709551616 - 9223372036854775808 < 0
 ·exact ⟨-1,by rw [if_pos c0],by omega⟩
 rw [if_neg c0];exact ⟨_,rfl,by omega⟩
def wtEntry (x : S167) : Nat := x.f2.size
theorem laws_szEntryS_loop (xs : List S167) (hx : xs.length ≤ 1048576) : ∀ (rest : List S167) (n : Nat) (c : Int), xs.drop n = rest → (∀ x ∈ rest, x.f2.size ≤ 140737488351232) → 0 ≤ c → c ≤ 1048576 →
  ∃ r,Ev (fun k => laws_szEntryS.l0 k xs c (n : Int)) r ∧ (¬ r < 0 → r = c - (((rest.map wtEntry).sum : Nat) : Int)):=by
 intro rest
 induction rest with
 | nil =>
  intro n c h _ h0 h1;have:=drop_nil h;refine ⟨c,Ev.step (fun _ => rfl) ?_,by simp⟩;simp only [laws_szEntryS.l0];exact Ev.neg (by omega) (Ev.now _)
 | cons x t ih =>
  intro n c h hq0 h0 h1;obtain ⟨hn,-,h3⟩:=drop_cons h;have hq:=hq0 x List.mem_cons_self;obtain ⟨r,hr,hb⟩:=laws_szEntry_some x.f0 x.f1 x.f2 c h0 h1 hq
  by_cases hc : r < 0
  ·refine ⟨-1,Ev.step (fun _ => rfl) ?_,by omega⟩;simp only [laws_szEntryS.l0,rdT167_drop h];exact Ev.pos (by omega) (Ev.pos (by omega) (Ev.call hr (Ev.pos hc (Ev.now _))))
  ·have hb:=hb hc;obtain ⟨r',hr',hb'⟩:=ih (n + 1) r h3 (fun y hy => hq0 y (List.mem_cons_of_mem _ hy)) (by omega) (by omega);refine ⟨r',Ev.step (fun _ => rfl) ?_,fun hn => ?_⟩
   ·simp only [laws_szEntryS.l0,rdT167_drop h,wrap64_succ (show n ≤ 9223372036854775806 by omega)];exact Ev.pos (by omega) (Ev.pos (by omega) (Ev.call hr (Ev.neg hc hr')))
   ·have:=hb' hn;rw [List.map_cons,List.sum_cons,wtEntry]
    omega
theorem laws_szEntryS_ev (xs : List S167) (hx : xs.length ≤ 17592186044416) (hq : ∀ x ∈ xs, x.f2.size ≤ 140737488351232) (c : Int) (h0 : 0 ≤ c) (h1 : c ≤ 1048576) :
  ∃ r,Ev (fun k => laws_szEntryS.f k xs c) r ∧ (¬ r < 0 → r = c - ((xs.length + (xs.map wtEntry).sum : Nat) : Int)):=by
 unfold laws_szEntryS.f
 rw [wrap64_id (by omega) (by omega)]
 by_cases hc : c - (xs.length : Int) < 0
 ·exact ⟨-1,Ev.pos hc (Ev.now _),by omega⟩
 ·obtain ⟨r,hr,hb⟩:=laws_szEntryS_loop xs (by omega) xs 0 (c - (xs.length : Int)) rfl hq (by omega) (by omega);exact ⟨r,Ev.neg hc hr,fun hn => by have:=hb hn;omega⟩
theorem sum_wtEntry {xs : List S167} {x : S167} (h : x ∈ xs) : wtEntry x ≤ (xs.map wtEntry).sum := le_sum (List.mem_map_of_mem h)
def toEntry (x : S167) : S37 := ⟨x.f0, x.f1, x.f2⟩
theorem laws_toEntryS_loop (xs : List S167) (hx : xs.length ≤ 1048576) : ∀ (d n : Nat), n + d = xs.length →
  Ev (fun k => laws_toEntryS.l0 k xs ((xs.map toEntry).take n ++ List.replicate d z37) (n : Int)) (xs.map toEntry):=by
 intro d
 induction d with
 | zero =>
  intro n h;refine Ev.step (fun _ => rfl) ?_;simp only [laws_toEntryS.l0];exact Ev.neg (by omega) (Ev.done (by rw [List.take_of_length_le (by simp;omega)];simp))
 | succ d ih =>
  intro n h;refine Ev.step (fun _ => rfl) ?_;simp only [laws_toEntryS.l0,wrap64_succ (show n ≤ 9223372036854775806 by omega)];refine Ev.pos (by omega) (Ev.pos (by omega) (Ev.call rfl (Ev.pos (by simp;omega) (Ev.congr (fun k => ?_) (ih (n + 1) (by omega))))));rw [Int.toNat_natCast,set_fill (xs.map toEntry) n d z37 _ (by simpa using h) (by rw [List.getElem?_map,rdT167_get (show n < xs.length by omega)];rfl)]
theorem laws_toEntryS_ev (xs : List S167) (hx : xs.length ≤ 1048576) : Ev (fun k => laws_toEntryS.f k xs) (xs.map toEntry) := by
 unfold laws_toEntryS.f
 refine Ev.pos (by omega) (Ev.pos (by omega) ?_);exact Ev.congr (fun k => by simp) (laws_toEntryS_loop xs hx xs.length 0 (by omega))
theorem laws_eqEntry_refl (x0 : Int) (x1 : Int) (x2 : ByteArray) : laws_eqEntry.f x0 x1 x2 x0 x1 x2 = some true := by simp [laws_eqEntry.f]
theorem laws_eqEntryS_loop (xs : List S37) (hx : xs.length ≤ 9223372036854775806) : ∀ (rest : List S37) (n : Nat), xs.drop n = rest → Ev (fun k => laws_eqEntryS.l0 k xs xs (n : Int)) true := by
 intro rest
 induction rest with
 | nil =>
  intro n h;have:=drop_nil h;refine Ev.step (fun _ => rfl) ?_;simp only [laws_eqEntryS.l0];exact Ev.neg (by omega) (Ev.now _)
 | cons x t ih =>
  intro n h;obtain ⟨h1,-,h3⟩:=drop_cons h;refine Ev.step (fun _ => rfl) ?_;simp only [laws_eqEntryS.l0,wrap64_succ (show n ≤ 9223372036854775806 by omega)];exact Ev.pos (by omega) (Ev.pos (by omega) (Ev.pos (by omega) (Ev.call (laws_eqEntry_refl _ _ _) (Ev.pos rfl (ih (n + 1) h3)))))
theorem laws_eqEntryS_refl (xs : List S37) (hx : xs.length ≤ 9223372036854775806) : Ev (fun k => laws_eqEntryS.f k xs xs) true :=
 Ev.pos rfl (laws_eqEntryS_loop xs hx xs 0 rfl)
theorem spec_l01In_eq (a b c : Int) : spec_l01In.f a b c = some (inR a b c) := by
 unfold spec_l01In.f inR
 by_cases h : b ≤ a
 ·rw [if_pos h];simp [h]
 ·rw [if_neg h];simp [h]
theorem impl_within_eq (a b c : Int) : impl_within.f a b c = some (inR a b c) := by
 unfold impl_within.f inR
 by_cases h : b ≤ a
 ·rw [if_pos h];simp [h]
 ·rw [if_neg h];simp [h]
theorem spec_l07Rise_loop (xs : List Int) (lo hi : Int) (hx : xs.length ≤ 9223372036854775806) : ∀ (rest : List Int) (n : Nat), xs.drop n = rest →
  Ev (fun k => spec_l07Rise.l0 k xs lo hi (n : Int)) (rise lo hi (prevOf xs n) rest):=by
 intro rest
 induction rest with
 | nil =>
  intro n h;have:=drop_nil h;refine Ev.step (fun _ => rfl) ?_;simp only [spec_l07Rise.l0];exact Ev.neg (by omega) (Ev.done (by cases n <;> rfl))
 | cons x t ih =>
  intro n h;obtain ⟨h1,-,h3⟩:=drop_cons h;have ih:=ih (n + 1) h3;rw [prevOf_next h] at ih;refine Ev.step (fun _ => rfl) ?_;simp only [spec_l07Rise.l0,drop_rd h,wrap64_succ (show n ≤ 9223372036854775806 by omega)];refine Ev.pos (by omega) (Ev.pos (by omega) (Ev.call (spec_l01In_eq _ _ _) ?_))
  cases hb : inR x lo hi
  ·exact Ev.neg (by simp) (Ev.done (by cases n <;> simp [rise,prevOf,hb]))
  ·refine Ev.pos rfl ?_
   cases n with
   | zero => exact Ev.neg (by omega) (Ev.eq ih (by simp [rise,prevOf,hb]))
   | succ m =>
    refine Ev.pos (by omega) ?_;simp only [wrap64_pred (show m ≤ 9223372036854775806 by omega)];refine Ev.pos (by omega) (Ev.pos (by omega) (Ev.ite (fun hc => Ev.done ?_) (fun hc => Ev.eq ih ?_)))
    ·simp only [prevOf,rise,hb,decide_eq_false (show ¬ rd xs (m : Int) < x by omega)];simp
    ·simp only [prevOf,rise,hb,decide_eq_true (show rd xs (m : Int) < x by omega)];simp
theorem spec_l07Rise_ev (xs : List Int) (lo hi : Int) (hx : xs.length ≤ 9223372036854775806) : Ev (fun k => spec_l07Rise.f k xs lo hi) (rise lo hi none xs) :=
 spec_l07Rise_loop xs lo hi hx xs 0 rfl
theorem spec_ConfOk_ev (xs : List Int) (hx : xs.length ≤ 9223372036854775806) : Ev (fun k => spec_ConfOk.f k xs) (confOk xs) := by
 unfold spec_ConfOk.f
 refine Ev.call (spec_l01In_eq _ _ _) ?_
 cases hb : inR xs.length 1 4
 ·exact Ev.neg (by simp) (Ev.done (by simp [confOk,hb]))
 ·exact Ev.pos rfl (Ev.bind (spec_l07Rise_ev xs 1 4 hx) (Ev.done (by simp [confOk,hb])))
theorem impl_ConfOk_loop (xs : List Int) (hx : xs.length ≤ 9223372036854775806) : ∀ (rest : List Int) (n : Nat), xs.drop n = rest →
  Ev (fun k => impl_ConfOk.l0 k xs xs (xs.length : Int) (n : Int)) (rise 1 4 (prevOf xs n) rest && inR xs.length 1 4):=by
 intro rest
 induction rest with
 | nil =>
  intro n h;have:=drop_nil h;refine Ev.step (fun _ => rfl) ?_;simp only [impl_ConfOk.l0];exact Ev.neg (by omega) (Ev.call (impl_within_eq _ _ _) (Ev.done (by cases n <;> simp [rise])))
 | cons x t ih =>
  intro n h;obtain ⟨h1,-,h3⟩:=drop_cons h;have ih:=ih (n + 1) h3;rw [prevOf_next h] at ih;refine Ev.step (fun _ => rfl) ?_;simp only [impl_ConfOk.l0,drop_rd h,wrap64_succ (show n ≤ 9223372036854775806 by omega)];refine Ev.pos (by omega) (Ev.pos (by omega) (Ev.pos (by omega) (Ev.call (impl_within_eq _ _ _) ?_)))
  cases hb : inR x 1 4
  ·exact Ev.neg (by simp) (Ev.done (by cases n <;> simp [rise,prevOf,hb]))
  ·refine Ev.pos rfl ?_
   cases n with
   | zero => exact Ev.neg (by omega) (Ev.eq ih (by simp [rise,prevOf,hb]))
   | succ m =>
    refine Ev.pos (by omega) ?_;simp only [wrap64_pred (show m ≤ 9223372036854775806 by omega)];refine Ev.pos (by omega) (Ev.pos (by omega) (Ev.ite (fun hc => Ev.done ?_) (fun hc => Ev.eq ih ?_)))
    ·simp only [prevOf,rise,hb,decide_eq_false (show ¬ rd xs (m : Int) < x by omega)];simp
    ·simp only [prevOf,rise,hb,decide_eq_true (show rd xs (m : Int) < x by omega)];simp
theorem impl_ConfOk_ev (xs : List Int) (hx : xs.length ≤ 9223372036854775806) : Ev (fun k => impl_ConfOk.f k xs) (confOk xs) :=
 Ev.eq (impl_ConfOk_loop xs hx xs 0 rfl) (by rw [confOk,Bool.and_comm];rfl)
theorem spec_ConfText_loop (xs : List Int) (hx : xs.length ≤ 1048576) : ∀ (rest : List Int) (n : Nat) (acc : List Int), xs.drop n = rest → acc.length = n →
  Ev (fun k => spec_ConfText.l0 k xs acc (n : Int)) (strOfNums (acc ++ rest.map (· % 256)),true):=by
 intro rest
 induction rest with
 | nil =>
  intro n acc h ha;have:=drop_nil h;refine Ev.step (fun _ => rfl) ?_;simp only [spec_ConfText.l0];exact Ev.neg (by omega) (Ev.done (by simp))
 | cons x t ih =>
  intro n acc h ha;obtain ⟨h1,-,h3⟩:=drop_cons h;refine Ev.step (fun _ => rfl) ?_;simp only [spec_ConfText.l0,drop_rd h,wrap64_succ (show n ≤ 9223372036854775806 by omega)];exact Ev.pos (by omega) (Ev.pos (by omega) (Ev.pos (by omega) (Ev.eq (ih (n + 1) (acc ++ [x % 256]) h3 (by simp [ha])) (by simp))))
theorem spec_ConfText_ev (xs : List Int) (hx : xs.length ≤ 1048576) : Ev (fun k => spec_ConfText.f k xs) (confText xs) := by
 unfold spec_ConfText.f
 refine Ev.bind (spec_ConfOk_ev xs (by omega)) ?_
 unfold confText
 cases hb : confOk xs
 ·exact Ev.neg (by simp) (Ev.done (by simp))
 ·exact Ev.pos rfl (Ev.eq (spec_ConfText_loop xs hx xs 0 [] rfl rfl) (by simp))
theorem laws_toIntS_loop (xs : List Int) (hx : xs.length ≤ 1048576) : ∀ (d n : Nat), n + d = xs.length →
  Ev (fun k => laws_toIntS.l0 k xs (xs.take n ++ List.replicate d 0) (n : Int)) xs:=by
 intro d
 induction d with
 | zero =>
  intro n h;refine Ev.step (fun _ => rfl) ?_;simp only [laws_toIntS.l0];exact Ev.neg (by omega) (Ev.done (by rw [List.take_of_length_le (by omega)];simp))
 | succ d ih =>
  intro n h;refine Ev.step (fun _ => rfl) ?_;simp only [laws_toIntS.l0,wrap64_succ (show n ≤ 9223372036854775806 by omega)];refine Ev.pos (by omega) (Ev.pos (by omega) (Ev.pos (by simp;omega) (Ev.eq (Ev.congr (fun k => ?_) (ih (n + 1) (by omega))) rfl)));rw [Int.toNat_natCast,set_fill xs n d 0 _ h (by rw [rd_nat];exact getD_get (by omega))]
theorem laws_toIntS_ev (xs : List Int) (hx : xs.length ≤ 1048576) : Ev (fun k => laws_toIntS.f k xs) xs := by
 unfold laws_toIntS.f
 refine Ev.pos (by omega) (Ev.pos (by omega) ?_);exact Ev.congr (fun k => by simp) (laws_toIntS_loop xs hx xs.length 0 (by omega))
theorem laws_eqIntS_loop (xs : List Int) (hx : xs.length ≤ 9223372036854775806) : ∀ (rest : List Int) (n : Nat), xs.drop n = rest → Ev (fun k => laws_eqIntS.l0 k xs xs (n : Int)) true := by
 intro rest
 induction rest with
 | nil =>
  intro n h;have:=drop_nil h;refine Ev.step (fun _ => rfl) ?_;simp only [laws_eqIntS.l0];exact Ev.neg (by omega) (Ev.now _)
 | cons x t ih =>
  intro n h;obtain ⟨h1,-,h3⟩:=drop_cons h;refine Ev.step (fun _ => rfl) ?_;simp only [laws_eqIntS.l0,wrap64_succ (show n ≤ 9223372036854775806 by omega)];exact Ev.pos (by omega) (Ev.pos (by omega) (Ev.pos (by omega) (Ev.pos trivial (ih (n + 1) h3))))
theorem laws_eqIntS_refl (xs : List Int) (hx : xs.length ≤ 9223372036854775806) : Ev (fun k => laws_eqIntS.f k xs xs) true :=
 Ev.pos rfl (laws_eqIntS_loop xs hx xs 0 rfl)
theorem spec_ReadConf_loop (s : ByteArray) (hx : s.size ≤ 1048576) : ∀ (rest : List Int) (n : Nat) (acc : List Int), (bytesOf s).drop n = rest → acc = (bytesOf s).take n → n ≤ 5 →
  Ev (fun k => spec_ReadConf.l0 k s acc (n : Int)) (readConf s):=by
 have hz:=bytesOf_length s
 have whole : ∀ (acc : List Int),acc = bytesOf s → Ev (fun k => if (acc.length : Int) = (s.size : Int) then ((spec_ConfOk.f k acc).bind fun t => (if t = true then (some (acc,true)) else (some ((([] : List Int)),false)))) else (some ((([] : List Int)),false))) (readConf s):=by
  intro acc ha;subst ha;refine Ev.pos (by omega) (Ev.bind (spec_ConfOk_ev _ (by omega)) ?_)
  unfold readConf
  cases hb : confOk (bytesOf s)
  ·exact Ev.neg (by simp) (Ev.done (by simp))
  ·exact Ev.pos rfl (Ev.done (by simp))
 intro rest
 induction rest with
 | nil =>
  intro n acc h ha h5;have:=bytesOf_drop_nil h;refine Ev.step (fun _ => rfl) ?_;simp only [spec_ReadConf.l0];exact Ev.neg (by omega) (whole acc (by rw [ha,List.take_of_length_le (by omega)]))
 | cons x t ih =>
  intro n acc h ha h5;obtain ⟨h1,h2,h3,h4,h6⟩:=bytesOf_drop_lt h;refine Ev.step (fun _ => rfl) ?_;simp only [spec_ReadConf.l0,h2,wrap64_id (show -9223372036854775808 ≤ x by omega) (show x ≤ 9223372036854775807 by omega),wrap64_succ (show n ≤ 9223372036854775806 by omega)];refine Ev.pos (by omega) (Ev.ite (fun hc => ?_) (fun hc => ?_))
  ·refine Ev.pos (by omega) (Ev.pos (by rw [ha,List.length_take];omega) (ih (n + 1) (acc ++ [x]) h3 ?_ (by omega)));rw [ha,List.take_succ_eq_append_getElem (show n < (bytesOf s).length by omega)];have e:=drop_rd h;rw [rd_nat,List.getD_eq_getElem?_getD,List.getElem?_eq_getElem (show n < (bytesOf s).length by omega)] at e;rw [← e];rfl
  ·have hl : acc.length = n:=by rw [ha,List.length_take];omega
   have hf : confOk (bytesOf s) = false:=by
    cases hb : confOk (bytesOf s)
    ·rfl
    ·have:=confOk_len hb;omega
   by_cases he : n = s.size
   ·exact whole acc (by rw [ha,List.take_of_length_le (by omega)])
   ·exact Ev.neg (by omega) (Ev.done (by simp [readConf,hf]))
theorem spec_ReadConf_ev (s : ByteArray) (hx : s.size ≤ 1048576) : Ev (fun k => spec_ReadConf.f k s) (readConf s) :=
 spec_ReadConf_loop s hx _ 0 [] rfl rfl (by omega)
theorem impl_ReadConf_loop (s : ByteArray) (hx : s.size ≤ 1048576) : ∀ (rest : List Int) (n : Nat) (acc : List Int), (bytesOf s).drop n = rest → acc = (bytesOf s).take n →
  Ev (fun k => impl_ReadConf.l0 k s acc (n : Int)) (readConf s):=by
 have hz:=bytesOf_length s;intro rest
 induction rest with
 | nil =>
  intro n acc h ha;have:=bytesOf_drop_nil h;refine Ev.step (fun _ => rfl) ?_;simp only [impl_ReadConf.l0]
  obtain rfl : acc = bytesOf s:=by rw [ha,List.take_of_length_le (by omega)]
  refine Ev.neg (by omega) (Ev.bind (impl_ConfOk_ev _ (by omega)) ?_)
  unfold readConf
  cases hb : confOk (bytesOf s)
  ·exact Ev.neg (by simp) (Ev.done (by simp))
  ·exact Ev.pos rfl (Ev.done (by simp))
 | cons x t ih =>
  intro n acc h ha;obtain ⟨h1,h2,h3,h4,h6⟩:=bytesOf_drop_lt h;refine Ev.step (fun _ => rfl) ?_;simp only [impl_ReadConf.l0,h2,wrap64_id (show -9223372036854775808 ≤ x by omega) (show x ≤ 9223372036854775807 by omega),wrap64_succ (show n ≤ 9223372036854775806 by omega)];refine Ev.pos (by omega) (Ev.pos (by omega) (Ev.pos (by rw [ha,List.length_take];omega) (ih (n + 1) (acc ++ [x]) h3 ?_)));rw [ha,List.take_succ_eq_append_getElem (show n < (bytesOf s).length by omega)];have e:=drop_rd h;rw [rd_nat,List.getD_eq_getElem?_getD,List.getElem?_eq_getElem (show n < (bytesOf s).length by omega)] at e;rw [← e];rfl
theorem impl_ReadConf_ev (s : ByteArray) (hx : s.size ≤ 1048576) : Ev (fun k => impl_ReadConf.f k s) (readConf s) :=
 impl_ReadConf_loop s hx _ 0 [] rfl rfl
theorem spec_l01Var_loop : ∀ (n : Nat) (acc : List Int), acc.length + n < 140737488355328 →
  Ev (fun k => spec_l01Var.l0 k (n : Int) acc) (strOfNums (acc ++ varL n)):=by
 intro n
 induction n using Nat.strongRecOn with
 | ind n ih =>
  intro acc h;refine Ev.step (fun _ => rfl) ?_;simp only [spec_l01Var.l0,tdiv128 n (by omega),tmod128 n];refine Ev.ite (fun hc => ?_) (fun hc => ?_)
  ·rw [varL_big (by omega)];exact Ev.pos (by omega) (Ev.eq (ih (n / 128) (by omega) _ (by simp;omega)) (by simp))
  ·rw [varL_small (by omega)];exact Ev.pos (by omega) (Ev.done (by rw [Int.emod_eq_of_lt (by omega) (by omega)]))
theorem spec_l01Var_nat (n : Nat) (h : n ≤ 34359738367) : Ev (fun k => spec_l01Var.f k (n : Int)) (varText n) := spec_l01Var_loop n [] (by simp; omega)
theorem spec_l01Var_ev (n : Int) (h0 : 0 ≤ n) (h : n ≤ 34359738367) : Ev (fun k => spec_l01Var.f k n) (varText n.toNat) := by
 obtain ⟨m,rfl⟩:=Int.eq_ofNat_of_zero_le h0;exact spec_l01Var_nat m (by omega)
theorem impl_VarText_loop : ∀ (n : Nat) (acc : List Int), acc.length + n < 140737488355328 →
  Ev (fun k => impl_VarText.l0 k (n : Int) acc) (strOfNums (acc ++ varL n),true):=by
 intro n
 induction n using Nat.strongRecOn with
 | ind n ih =>
  intro acc h;refine Ev.step (fun _ => rfl) ?_;simp only [impl_VarText.l0,tdiv128 n (by omega),tmod128 n];refine Ev.ite (fun hc => ?_) (fun hc => ?_)
  ·rw [varL_big (by omega)];exact Ev.pos (by omega) (Ev.eq (ih (n / 128) (by omega) _ (by simp;omega)) (by simp))
  ·rw [varL_small (by omega)];exact Ev.pos (by omega) (Ev.done (by rw [Int.emod_eq_of_lt (by omega) (by omega)]))
theorem impl_VarText_ev (n : Int) : Ev (fun k => impl_VarText.f k n) (varTextOf n) := by
 unfold impl_VarText.f varTextOf
 refine Ev.call (impl_within_eq _ _ _) ?_
 cases hb : inR n 0 1000000000
 ·exact Ev.neg (by simp) (Ev.done (by simp))
 ·have:=inR_true.1 hb;obtain ⟨m,rfl⟩:=Int.eq_ofNat_of_zero_le this.1;exact Ev.pos rfl (Ev.eq (impl_VarText_loop m [] (by simp;omega)) (by simp [varText]))
theorem impl_VarText_nat (n : Nat) (h : n ≤ 1000000000) : Ev (fun k => impl_VarText.f k (n : Int)) (varText n, true) :=
 Ev.eq (impl_VarText_ev (n : Int)) (by rw [varTextOf,if_pos (inR_true.2 (by omega))];rfl)
theorem impl_vars_loop (xs : List Int) (hx : xs.length ≤ 1048576) : ∀ (rest : List Int) (n : Nat) (acc : List Int), xs.drop n = rest → acc.length + 5 * rest.length < 140737488355328 →
  Ev (fun k => impl_vars.l0 k acc xs (xs.length : Int) (n : Int)) (if rest.all (fun n => inR n 0 1000000000) = true then (strOfNums (acc ++ rest.flatMap fun n => varL n.toNat),true) else (⟨#[]⟩,false)):=by
 intro rest
 induction rest with
 | nil =>
  intro n acc h ha;have:=drop_nil h;refine Ev.step (fun _ => rfl) ?_;simp only [impl_vars.l0];exact Ev.neg (by omega) (Ev.done (by simp))
 | cons x t ih =>
  intro n acc h ha;obtain ⟨h1,-,h3⟩:=drop_cons h;refine Ev.step (fun _ => rfl) ?_;simp only [impl_vars.l0,drop_rd h,wrap64_succ (show n ≤ 9223372036854775806 by omega)];refine Ev.pos (by omega) (Ev.pos (by omega) (Ev.pos (by omega) (Ev.bind (impl_VarText_ev x) ?_)))
  unfold varTextOf
  cases hb : inR x 0 1000000000
  ·exact Ev.neg (by simp) (Ev.done (by simp [hb]))
  ·have hr:=inR_true.1 hb;have hv:=varL_len (show x.toNat ≤ 34359738367 by omega);simp only [if_true,varText,strOfNums_size,bytesOf_strOfNums _ (varL_bytes _)];rw [List.length_cons] at ha;refine Ev.pos (by omega) (Ev.eq (ih (n + 1) (acc ++ varL x.toNat) h3 (by rw [List.length_append];omega)) ?_)
   simp [hb]
theorem impl_vars_ev (xs : List Int) (hx : xs.length ≤ 1048576) : Ev (fun k => impl_vars.f k xs) (varsOf xs) :=
 Ev.eq (impl_vars_loop xs hx xs 0 [] rfl (by simp;omega)) (by simp [varsOf])
theorem spec_EntryOk_ev (t d : Int) (s : ByteArray) (hs : s.size ≤ 1048576) : Ev (fun k => spec_EntryOk.f k t d s) (entryOk t d s) := by
 unfold spec_EntryOk.f entryOk
 simp only [emp_def];refine Ev.call (spec_l01In_eq _ _ _) ?_
 cases h1 : inR t 0 100000
 ·exact Ev.neg (by simp) (Ev.done (by simp))
 refine Ev.pos rfl (Ev.ite (fun h => Ev.done (by simp [h])) (fun h => Ev.ite (fun h' => ?_) (fun h' => Ev.ite (fun h2 => Ev.done ?_) (fun h2 => Ev.done (by simp [h,h',h2])))))
 ·refine Ev.bind (spec_ReadConf_ev s hs) (Ev.done ?_);subst h'
  unfold readConf
  cases hc : confOk (bytesOf s) <;> simp
 ·subst h2
  simp
  omega
theorem impl_EntryOk_ev (t d : Int) (s : ByteArray) (hs : s.size ≤ 1048576) : Ev (fun k => impl_EntryOk.f k t d s) (entryOk t d s) := by
 unfold impl_EntryOk.f entryOk
 simp only [emp_def];refine Ev.call (impl_within_eq _ _ _) ?_
 cases h1 : inR t 0 100000
 ·exact Ev.neg (by simp) (Ev.done (by simp))
 refine Ev.pos rfl (Ev.ite (fun h => Ev.done (by simp [h])) (fun h => Ev.ite (fun h' => ?_) (fun h' => Ev.ite (fun h2 => Ev.done ?_) (fun h2 => Ev.done (by simp [h,h',h2])))))
 ·refine Ev.bind (impl_ReadConf_ev s hs) (Ev.done ?_);subst h'
  unfold readConf
  cases hc : confOk (bytesOf s) <;> simp
 ·subst h2
  simp
  omega
theorem spec_l05Short_ev (s : ByteArray) (hs : s.size ≤ 1073741824) : Ev (fun k => spec_l05Short.f k s) (shortText s) := by
 have h:=varText_size (show s.size ≤ 34359738367 by omega);exact Ev.bind (spec_l01Var_nat _ (by omega)) (Ev.pos (by omega) (Ev.now _))
theorem impl_ShortText_ev (s : ByteArray) (hs : s.size ≤ 20000) : Ev (fun k => impl_ShortText.f k s) (shortText s, true) := by
 have h:=varText_size (show s.size ≤ 34359738367 by omega);exact Ev.neg (by omega) (Ev.bind (impl_VarText_nat _ (by omega)) (Ev.pos (by dsimp only;omega) (Ev.now _)))
theorem spec_EntryText_ev (i t d : Int) (s : ByteArray) (hs : s.size ≤ 1048576) : Ev (fun k => spec_EntryText.f k i t d s) (entryText i t d s) := by
 unfold spec_EntryText.f entryText
 refine Ev.bind (spec_EntryOk_ev t d s hs) ?_
 cases hb : entryOk t d s
 ·refine Ev.neg (by simp) (Ev.step (fun _ => rfl) ?_);simp only [spec_EntryText.j0];exact Ev.pos trivial (Ev.done (by simp))
 refine Ev.pos rfl (Ev.call (spec_l01In_eq _ _ _) (Ev.step (fun _ => rfl) ?_));simp only [spec_EntryText.j0]
 cases hi : inR i 1 100000
 ·exact Ev.pos rfl (Ev.done (by simp))
 have h1:=inR_true.1 hi;have h2:=entryOk_term hb;have s1:=varText_size (show i.toNat ≤ 34359738367 by omega);have s2:=varText_size (show t.toNat ≤ 34359738367 by omega)
 have s3 : (strOfNums [d % 256]).size = 1:=by rw [strOfNums_size];rfl
 have s4 : (⟨#[69]⟩ : ByteArray).size = 1:=rfl;exact Ev.neg (by simp) (Ev.bind (spec_l01Var_ev i (by omega) (by omega)) (Ev.pos (by omega) (Ev.bind (spec_l01Var_ev t (by omega) (by omega)) (Ev.pos (by simp only [size_append];omega) (Ev.call rfl (Ev.pos (by simp only [size_append];omega) (Ev.pos (by simp only [size_append];omega) (Ev.done (by simp)))))))))
theorem impl_EntryText_ev (i t d : Int) (s : ByteArray) (hs : s.size ≤ 1048576) : Ev (fun k => impl_EntryText.f k i t d s) (entryText i t d s) := by
 unfold impl_EntryText.f entryText
 refine Ev.bind (impl_EntryOk_ev t d s hs) ?_
 cases hb : entryOk t d s
 ·exact Ev.neg (by simp) (Ev.done (by simp))
 refine Ev.pos rfl (Ev.call (impl_within_eq _ _ _) ?_)
 cases hi : inR i 1 100000
 ·exact Ev.neg (by simp) (Ev.done (by simp))
 have h1:=inR_true.1 hi;have h2:=entryOk_term hb;have s1:=varText_size (show i.toNat ≤ 34359738367 by omega);have s2:=varText_size (show t.toNat ≤ 34359738367 by omega)
 have s3 : (strOfNums [d % 256]).size = 1:=by rw [strOfNums_size];rfl
 have s4 : (⟨#[69]⟩ : ByteArray).size = 1:=rfl;have e : varsOf [i,t] = (varText i.toNat ++ varText t.toNat,true):=varsOf_two (inR_true.2 (by omega)) (inR_true.2 (by omega));refine Ev.pos rfl (Ev.bind (Ev.eq (impl_vars_ev [i,t] (by simp)) e) (Ev.pos (by simp only [size_append];omega) (Ev.call rfl (Ev.pos (by simp only [size_append];omega) (Ev.pos (by simp only [size_append];omega) (Ev.done ?_))))))
 simp [ByteArray.append_assoc]
theorem spec_MessageOk_loop (kd fr tt tm ix lt cm : Int) (ok : Bool) (es : List S37) (cf : List Int) (da : ByteArray) (la : Bool) (hx : es.length ≤ 1048576) (hd : ∀ x ∈ es, x.f2.size ≤ 1048576) (hc : cf.length ≤ 1048576) : ∀ (rest : List S37) (n : Nat) (t : Int), es.drop n = rest →
  Ev (fun k => spec_MessageOk.l0 k t (n : Int) kd fr tt tm ix lt cm ok es cf da la) (entriesIn t tm rest && (if kd = 5 then confOk cf && decide (da.size ≤ 60) else decide (cf.length = 0) && (emp da && !la))):=by
 intro rest
 induction rest with
 | nil =>
  intro n t h;have:=drop_nil h;refine Ev.step (fun _ => rfl) ?_;simp only [spec_MessageOk.l0];refine Ev.neg (by omega) (Ev.ite (fun h5 => ?_) (fun h5 => ?_))
  ·refine Ev.bind (spec_ConfOk_ev cf (by omega)) ?_;rw [if_pos h5]
   cases hk : confOk cf
   ·exact Ev.neg (by simp) (Ev.done (by simp))
   ·exact Ev.pos rfl (Ev.done (by simp [entriesIn];omega))
  ·rw [if_neg h5];refine Ev.ite (fun h6 => ?_) (fun h6 => Ev.done ?_)
   ·rw [decide_eq_true (show cf.length = 0 by omega)];refine Ev.ite (fun h7 => Ev.done ?_) (fun h7 => Ev.done ?_)
    ·simp [entriesIn,(emp_iff _).1 h7]
    ·simp [Bool.eq_false_iff.2 (fun e => h7 ((emp_iff _).2 e))]
   ·rw [decide_eq_false (show ¬ cf.length = 0 by omega)];simp
 | cons x r ih =>
  intro n t h;obtain ⟨h1,-,h3⟩:=drop_cons h;have hm : x ∈ es:=List.mem_of_mem_drop (h ▸ List.mem_cons_self);refine Ev.step (fun _ => rfl) ?_;simp only [spec_MessageOk.l0,rdT37_drop h,wrap64_succ (show n ≤ 9223372036854775806 by omega)];refine Ev.pos (by omega) (Ev.pos (by omega) (Ev.bind (spec_EntryOk_ev _ _ _ (hd x hm)) ?_));rw [entriesIn]
  cases hb : entryOk x.f0 x.f1 x.f2
  ·exact Ev.neg (by simp) (Ev.done (by simp))
  ·refine Ev.pos rfl (Ev.ite (fun hc => Ev.done ?_) (fun hc => Ev.ite (fun hc' => Ev.done ?_) (fun hc' => Ev.eq (ih (n + 1) _ h3) ?_)))
   ·simp only [decide_eq_false (show ¬ t ≤ x.f0 by omega)];simp
   ·simp only [decide_eq_false (show ¬ x.f0 ≤ tm by omega)];simp
   ·simp only [decide_eq_true (show t ≤ x.f0 by omega),decide_eq_true (show x.f0 ≤ tm by omega)];simp
theorem spec_MessageOk_ev (kd fr tt tm ix lt cm : Int) (ok : Bool) (es : List S37) (cf : List Int) (da : ByteArray) (la : Bool) (hx : es.length ≤ 1048576) (hd : ∀ x ∈ es, x.f2.size ≤ 1048576) (hc : cf.length ≤ 1048576) : Ev (fun k => spec_MessageOk.f k kd fr tt tm ix lt cm ok es cf da la) (msgOk kd fr tt tm ix lt cm ok es cf da la) := by
 have bad2 : ∀ r,r = false → Ev (fun k => spec_MessageOk.j2 k true kd fr tt tm ix lt cm ok es cf da la) r:=by
  rintro r rfl;refine Ev.step (fun _ => rfl) ?_;simp only [spec_MessageOk.j2];exact Ev.pos trivial (Ev.now _)
 have bad1 : ∀ r,r = false → Ev (fun k => spec_MessageOk.j1 k true kd fr tt tm ix lt cm ok es cf da la) r:=by
  rintro r rfl;refine Ev.step (fun _ => rfl) ?_;simp only [spec_MessageOk.j1];exact Ev.pos trivial (Ev.now _)
 have bad0 : ∀ r,r = false → Ev (fun k => spec_MessageOk.j0 k true kd fr tt tm ix lt cm ok es cf da la) r:=by
  rintro r rfl;refine Ev.step (fun _ => rfl) ?_;simp only [spec_MessageOk.j0];exact Ev.pos trivial (Ev.now _)
 unfold spec_MessageOk.f msgOk
 refine Ev.call (spec_l01In_eq _ _ _) ?_
 cases h1 : inR kd 1 6
 ·exact Ev.neg (by simp) (bad0 _ (by simp))
 refine Ev.pos rfl (Ev.call (spec_l01In_eq _ _ _) ?_)
 cases h2 : inR fr 1 4
 ·exact Ev.neg (by simp) (bad0 _ (by simp))
 refine Ev.pos rfl (Ev.call (spec_l01In_eq _ _ _) ?_)
 cases h3 : inR tt 1 4
 ·exact Ev.neg (by simp) (bad0 _ (by simp))
 refine Ev.pos rfl ?_
 cases h4 : fr == tt
 case true => exact bad0 _ (by simp)
 refine Ev.step (fun _ => rfl) ?_;simp only [spec_MessageOk.j0];refine Ev.neg (by simp) (Ev.call (spec_l01In_eq _ _ _) ?_)
 cases h5 : inR tm 0 100000
 ·exact Ev.neg (by simp) (bad1 _ (by simp))
 refine Ev.pos rfl (Ev.call (spec_l01In_eq _ _ _) ?_)
 cases h6 : inR lt 0 100000
 ·exact Ev.neg (by simp) (bad1 _ (by simp))
 refine Ev.pos rfl (Ev.call (spec_l01In_eq _ _ _) ?_)
 cases h7 : inR ix 0 100000
 ·exact Ev.neg (by simp) (bad1 _ (by simp))
 refine Ev.pos rfl (Ev.call (spec_l01In_eq _ _ _) ?_)
 cases h8 : inR cm 0 100000
 ·exact bad1 _ (by simp)
 refine Ev.step (fun _ => rfl) ?_;simp only [spec_MessageOk.j1];refine Ev.neg (by simp) (Ev.ite (fun h9 => bad2 _ ?_) (fun h9 => ?_))
 ·rw [decide_eq_false (show ¬ es.length ≤ 4 by omega)];simp
 rw [decide_eq_true (show es.length ≤ 4 by omega)]
 have go : decide (es.length = 0 ∨ kd = 3) = true → Ev (fun k => spec_MessageOk.j2 k false kd fr tt tm ix lt cm ok es cf da la) (entriesIn lt tm es && (if kd = 5 then confOk cf && decide (da.size ≤ 60) else decide (cf.length = 0) && (emp da && !la))):=by
  intro hd';refine Ev.step (fun _ => rfl) ?_;simp only [spec_MessageOk.j2];exact Ev.neg (by simp) (spec_MessageOk_loop kd fr tt tm ix lt cm ok es cf da la hx hd hc es 0 lt rfl)
 refine Ev.ite (fun h10 => ?_) (fun h10 => ?_)
 ·by_cases h11 : kd = 3
  ·rw [show (kd != 3) = false by simp [h11]]
   have hD : decide (es.length = 0 ∨ kd = 3) = true:=by simp [h11]
   exact Ev.eq (go hD) (by rw [hD];simp)
  ·rw [show (kd != 3) = true by simp [h11]];refine bad2 _ ?_;rw [decide_eq_false (show ¬ (es.length = 0 ∨ kd = 3) by omega)];simp
 ·have hD : decide (es.length = 0 ∨ kd = 3) = true:=decide_eq_true (by omega);exact Ev.eq (go hD) (by rw [hD];simp)
theorem impl_MessageOk_loop (kd fr tt tm ix lt cm : Int) (ok : Bool) (es : List S37) (cf : List Int) (da : ByteArray) (la : Bool) (hx : es.length ≤ 1048576) (hd : ∀ x ∈ es, x.f2.size ≤ 1048576) (hc : cf.length ≤ 1048576) (h60 : da.size ≤ 60) : ∀ (rest : List S37) (n : Nat) (t : Int), es.drop n = rest →
  Ev (fun k => impl_MessageOk.l0 k t es (es.length : Int) (n : Int) kd fr tt tm ix lt cm ok es cf da la) (decide (rest.length = 0 ∨ kd = 3) && (entriesIn t tm rest && (if kd = 5 then confOk cf && decide (da.size ≤ 60) else decide (cf.length = 0) && (emp da && !la)))):=by
 intro rest
 induction rest with
 | nil =>
  intro n t h;have:=drop_nil h;refine Ev.step (fun _ => rfl) ?_;simp only [impl_MessageOk.l0];refine Ev.neg (by omega) (Ev.ite (fun h5 => ?_) (fun h5 => ?_))
  ·refine Ev.bind (impl_ConfOk_ev cf (by omega)) (Ev.done ?_);rw [if_pos h5,decide_eq_true h60]
   simp [entriesIn]
  ·rw [if_neg h5];refine Ev.ite (fun h6 => ?_) (fun h6 => Ev.done ?_)
   ·rw [decide_eq_true (show cf.length = 0 by omega)];refine Ev.ite (fun h7 => Ev.done ?_) (fun h7 => Ev.done ?_)
    ·simp [entriesIn,(emp_iff _).1 h7]
    ·simp [Bool.eq_false_iff.2 (fun e => h7 ((emp_iff _).2 e))]
   ·rw [decide_eq_false (show ¬ cf.length = 0 by omega)];simp
 | cons x r ih =>
  intro n t h;obtain ⟨h1,-,h3⟩:=drop_cons h;have hm : x ∈ es:=List.mem_of_mem_drop (h ▸ List.mem_cons_self);refine Ev.step (fun _ => rfl) ?_;simp only [impl_MessageOk.l0,rdT37_drop h,wrap64_succ (show n ≤ 9223372036854775806 by omega)];refine Ev.pos (by omega) (Ev.pos (by omega) (Ev.pos (by omega) (Ev.ite (fun hk => ?_) (fun hk => Ev.done ?_))))
  ·refine Ev.bind (impl_EntryOk_ev _ _ _ (hd x hm)) ?_;rw [decide_eq_true (show (x :: r).length = 0 ∨ kd = 3 from Or.inr hk),entriesIn]
   cases hb : entryOk x.f0 x.f1 x.f2
   ·exact Ev.neg (by simp) (Ev.done (by simp))
   ·refine Ev.pos rfl (Ev.call (impl_within_eq _ _ _) ?_)
    cases hi : inR x.f0 t tm
    ·refine Ev.neg (by simp) (Ev.done ?_);have:=inR_false.1 hi
     by_cases h8 : t ≤ x.f0
     ·rw [decide_eq_false (show ¬ x.f0 ≤ tm by omega)];simp
     ·rw [decide_eq_false h8];simp
    ·have:=inR_true.1 hi;refine Ev.pos rfl (Ev.eq (ih (n + 1) _ h3) ?_);rw [decide_eq_true (show r.length = 0 ∨ kd = 3 from Or.inr hk),decide_eq_true (show t ≤ x.f0 by omega),decide_eq_true (show x.f0 ≤ tm by omega)];simp
  ·rw [decide_eq_false (show ¬ ((x :: r).length = 0 ∨ kd = 3) by simp [hk])];simp
theorem impl_MessageOk_ev (kd fr tt tm ix lt cm : Int) (ok : Bool) (es : List S37) (cf : List Int) (da : ByteArray) (la : Bool) (hx : es.length ≤ 1048576) (hd : ∀ x ∈ es, x.f2.size ≤ 1048576) (hc : cf.length ≤ 1048576) : Ev (fun k => impl_MessageOk.f k kd fr tt tm ix lt cm ok es cf da la) (msgOk kd fr tt tm ix lt cm ok es cf da la) := by
 have bad1 : ∀ r,r = false → Ev (fun k => impl_MessageOk.j1 k true kd fr tt tm ix lt cm ok es cf da la) r:=by
  rintro r rfl;refine Ev.step (fun _ => rfl) ?_;simp only [impl_MessageOk.j1];exact Ev.pos trivial (Ev.now _)
 have bad0 : ∀ r,r = false → Ev (fun k => impl_MessageOk.j0 k true kd fr tt tm ix lt cm ok es cf da la) r:=by
  rintro r rfl;refine Ev.step (fun _ => rfl) ?_;simp only [impl_MessageOk.j0];exact Ev.pos trivial (Ev.now _)
 unfold impl_MessageOk.f msgOk
 refine Ev.call (impl_within_eq _ _ _) ?_
 cases h1 : inR kd 1 6
 ·exact Ev.neg (by simp) (bad0 _ (by simp))
 refine Ev.pos rfl (Ev.call (impl_within_eq _ _ _) ?_)
 cases h2 : inR fr 1 4
 ·exact Ev.neg (by simp) (bad0 _ (by simp))
 refine Ev.pos rfl (Ev.call (impl_within_eq _ _ _) ?_)
 cases h3 : inR tt 1 4
 ·exact Ev.neg (by simp) (bad0 _ (by simp))
 refine Ev.pos rfl ?_
 cases h4 : fr == tt
 case true => exact bad0 _ (by simp)
 refine Ev.step (fun _ => rfl) ?_;simp only [impl_MessageOk.j0];refine Ev.neg (by simp) (Ev.call (impl_within_eq _ _ _) ?_)
 cases h5 : inR tm 0 100000
 ·exact Ev.neg (by simp) (bad1 _ (by simp))
 refine Ev.pos rfl (Ev.call (impl_within_eq _ _ _) ?_)
 cases h6 : inR lt 0 100000
 ·exact Ev.neg (by simp) (bad1 _ (by simp))
 refine Ev.pos rfl (Ev.call (impl_within_eq _ _ _) ?_)
 cases h7 : inR ix 0 100000
 ·exact Ev.neg (by simp) (bad1 _ (by simp))
 refine Ev.pos rfl (Ev.call (impl_within_eq _ _ _) ?_)
 cases h8 : inR cm 0 100000
 ·exact Ev.neg (by simp) (bad1 _ (by simp))
 refine Ev.pos rfl (Ev.ite (fun h9 => bad1 _ ?_) (fun h9 => ?_))
 ·rw [decide_eq_false (show ¬ es.length ≤ 4 by omega)];simp
 rw [decide_eq_true (show es.length ≤ 4 by omega)]
 by_cases h10 : da.size ≤ 60
 ·rw [decide_eq_false (show ¬ (da.size : Int) > 60 by omega)];refine Ev.step (fun _ => rfl) ?_;simp only [impl_MessageOk.j1];exact Ev.neg (by simp) (Ev.eq (impl_MessageOk_loop kd fr tt tm ix lt cm ok es cf da la hx hd hc h10 es 0 lt rfl) (by simp))
 ·rw [decide_eq_true (show (da.size : Int) > 60 by omega)];refine bad1 _ ?_;have he : emp da = false:=Bool.eq_false_iff.2 (fun e => h10 (by have:=emp_true.1 e;omega))
  by_cases h5 : kd = 5
  ·rw [if_pos h5,decide_eq_false h10];simp
  ·rw [if_neg h5,he];simp
theorem laws_szMessage_ev (kd fr tt tm ix lt cm : Int) (ok : Bool) (es : List S167) (cf : List Int) (da : ByteArray) (la : Bool) (hx : es.length ≤ 17592186044416) (hq : ∀ x ∈ es, x.f2.size ≤ 140737488351232) (hc : cf.length ≤ 17592186044416) (hd : da.size ≤ 140737488351232) :
  ∃ r,Ev (fun k => laws_szMessage.f k kd fr tt tm ix lt cm ok es cf da la 1048576) r ∧ (¬ r < 0 → es.length ≤ 1048576 ∧ (∀ x ∈ es,x.f2.size ≤ 1048576) ∧ cf.length ≤ 1048576 ∧ da.size ≤ 1048576):=by
 unfold laws_szMessage.f
 obtain ⟨r,hr,hb⟩:=laws_szEntryS_ev es hx hq 1048576 (by omega) (by omega)
 by_cases h1 : r < 0
 ·exact ⟨-1,Ev.bind hr (Ev.pos h1 (Ev.now _)),by omega⟩
 have hb:=hb h1
 have hw : ∀ x ∈ es,x.f2.size ≤ 1048576:=by
  intro x hx;have h1:=sum_wtEntry hx;have h2 : wtEntry x = x.f2.size:=rfl
  omega
 by_cases h2 : r - (cf.length : Int) < 0
 ·refine ⟨-1,Ev.bind hr (Ev.neg h1 (Ev.call (a:=-1) ?_ (Ev.pos (by omega) (Ev.now _)))),by omega⟩
  unfold laws_szIntS.f
  rw [wrap64_id (by omega) (by omega),if_pos h2]
 have e2 : laws_szIntS.f cf r = some (r - (cf.length : Int)):=by
  unfold laws_szIntS.f
  rw [wrap64_id (by omega) (by omega),if_neg h2]
 by_cases h3 : r - (cf.length : Int) - (da.size : Int) < 0
 ·refine ⟨-1,Ev.bind hr (Ev.neg h1 (Ev.call e2 (Ev.neg h2 ?_))),by omega⟩;rw [wrap64_id (by omega) (by omega)];exact Ev.pos h3 (Ev.now _)
 ·refine ⟨r - (cf.length : Int) - (da.size : Int),Ev.bind hr (Ev.neg h1 (Ev.call e2 (Ev.neg h2 ?_))),fun _ => ⟨by omega,hw,by omega,by omega⟩⟩;rw [wrap64_id (by omega) (by omega)];exact Ev.neg h3 (Ev.now _)
theorem laws_toMessage_ev (kd fr tt tm ix lt cm : Int) (ok : Bool) (es : List S167) (cf : List Int) (da : ByteArray) (la : Bool) (hx : es.length ≤ 1048576) (hc : cf.length ≤ 1048576) :
  Ev (fun k => laws_toMessage.f k kd fr tt tm ix lt cm ok es cf da la) (kd,fr,tt,tm,ix,lt,cm,ok,es.map toEntry,cf,da,la) :=
 Ev.bind (laws_toEntryS_ev es hx) (Ev.bind (laws_toIntS_ev cf hc) (Ev.now _))
theorem laws_eqMessage_refl (kd fr tt tm ix lt cm : Int) (ok : Bool) (es : List S37) (cf : List Int) (da : ByteArray) (la : Bool) (hx : es.length ≤ 9223372036854775806) (hc : cf.length ≤ 9223372036854775806) : Ev (fun k => laws_eqMessage.f k kd fr tt tm ix lt cm ok es cf da la kd fr tt tm ix lt cm ok es cf da la) true :=
 Ev.pos rfl (Ev.pos rfl (Ev.pos rfl (Ev.pos rfl (Ev.pos rfl (Ev.pos rfl (Ev.pos rfl (Ev.neg (by simp) (Ev.bind (laws_eqEntryS_refl es hx) (Ev.pos rfl (Ev.bind (laws_eqIntS_refl cf hc) (Ev.pos rfl (Ev.pos rfl (Ev.neg (by simp) (Ev.now _))))))))))))))
def flagT (b : Bool) : ByteArray := if b = true then ⟨#[1]⟩ else ⟨#[0]⟩
theorem flagT_size (b : Bool) : (flagT b).size = 1 := by cases b <;> rfl
theorem spec_l14Flag_eq (b : Bool) : spec_l14Flag.f b = some (flagT b) := by cases b <;> rfl
theorem impl_flag_eq (b : Bool) : impl_flag.f b = some (flagT b) := by cases b <;> rfl
theorem entryOk_size {t k : Int} {d : ByteArray} (h : entryOk t k d = true) : d.size ≤ 120 := by
 unfold entryOk at h
 rw [Bool.and_eq_true] at h;have h:=h.2
 split at h
 ·have:=emp_true.1 h;omega
 split at h
 ·have:=confOk_len h;rw [bytesOf_length] at this;omega
 split at h
 ·exact of_decide_eq_true h
 ·simp at h
theorem entriesIn_ok : ∀ {l : List S37} {t T : Int}, entriesIn t T l = true → ∀ x ∈ l, x.f2.size ≤ 120
 | [],_,_,_,x,hx => by cases hx
 | e :: r,t,T,h,x,hx => by
  simp only [entriesIn,Bool.and_eq_true] at h
  rcases List.mem_cons.1 hx with rfl|hx
  ·exact entryOk_size h.1
  ·exact entriesIn_ok h.2.2.2 x hx
def encHead (kd fr tt tm ix lt cm : Int) (ok la : Bool) (n : Nat) : ByteArray :=
 strOfNums [kd % 256,fr % 256,tt % 256] ++ varText tm.toNat ++ varText ix.toNat ++ varText lt.toNat ++ varText cm.toNat ++ flagT ok ++ flagT la ++ varText n
def encRows : ByteArray → List S37 → ByteArray
 | s,[] => s
 | s,x :: t => encRows (s ++ shortText (entryText 1 x.f0 x.f1 x.f2).1) t
def encode (kd fr tt tm ix lt cm : Int) (ok : Bool) (es : List S37) (cf : List Int) (da : ByteArray) (la : Bool) : ByteArray × Bool := if msgOk kd fr tt tm ix lt cm ok es cf da la = true then (encRows (encHead kd fr tt tm ix lt cm ok la es.length) es ++ shortText (confText cf).1 ++ shortText da, true) else (⟨#[]⟩, false)
theorem msgOk_bounds (kd fr tt tm ix lt cm : Int) (ok : Bool) (es : List S37) (cf : List Int) (da : ByteArray) (la : Bool) (h : msgOk kd fr tt tm ix lt cm ok es cf da la = true) : (0 ≤ tm ∧ tm ≤ 100000) ∧ (0 ≤ ix ∧ ix ≤ 100000) ∧ (0 ≤ lt ∧ lt ≤ 100000) ∧ (0 ≤ cm ∧ cm ≤ 100000) ∧ es.length ≤ 4 ∧ (∀ x ∈ es, x.f2.size ≤ 120) ∧ cf.length ≤ 4 ∧ da.size ≤ 60 ∧ (confOk cf = true ∨ cf = []) := by
 unfold msgOk at h
 simp only [Bool.and_eq_true] at h;obtain ⟨-,-,-,-,h5,h6,h7,h8,h9,-,h11,h12⟩:=h;refine ⟨inR_true.1 h5,inR_true.1 h7,inR_true.1 h6,inR_true.1 h8,of_decide_eq_true h9,entriesIn_ok h11,?_⟩
 split at h12
 ·rw [Bool.and_eq_true] at h12;have:=confOk_len h12.1;exact ⟨by omega,of_decide_eq_true h12.2,Or.inl h12.1⟩
 ·simp only [Bool.and_eq_true] at h12;have h13:=of_decide_eq_true h12.1;have:=emp_true.1 h12.2.1;exact ⟨by omega,by omega,Or.inr (List.length_eq_zero_iff.1 h13)⟩
theorem encHead_size (kd fr tt tm ix lt cm : Int) (ok la : Bool) (n : Nat) (h1 : tm ≤ 100000) (h2 : ix ≤ 100000) (h3 : lt ≤ 100000) (h4 : cm ≤ 100000) (h5 : n ≤ 4) : (encHead kd fr tt tm ix lt cm ok la n).size ≤ 30 := by
 have s1:=varText_size (show tm.toNat ≤ 34359738367 by omega);have s2:=varText_size (show ix.toNat ≤ 34359738367 by omega);have s3:=varText_size (show lt.toNat ≤ 34359738367 by omega);have s4:=varText_size (show cm.toNat ≤ 34359738367 by omega);have s5:=varText_size (show n ≤ 34359738367 by omega)
 have s6 : (strOfNums [kd % 256,fr % 256,tt % 256]).size = 3:=by rw [strOfNums_size];rfl
 have f1:=flagT_size ok;have f2:=flagT_size la
 unfold encHead
 simp only [size_append]
 omega
theorem spec_Encode_loop (kd fr tt tm ix lt cm : Int) (ok : Bool) (es : List S37) (cf : List Int) (da : ByteArray) (la : Bool) (hx : es.length ≤ 4) (hd : ∀ x ∈ es, x.f2.size ≤ 120) (hc : cf.length ≤ 4) (hda : da.size ≤ 60) : ∀ (rest : List S37) (n : Nat) (acc : ByteArray), es.drop n = rest → acc.size + 200 * rest.length ≤ 10000 →
  Ev (fun k => spec_Encode.l0 k acc (n : Int) kd fr tt tm ix lt cm ok es cf da la) (encRows acc rest ++ shortText (confText cf).1 ++ shortText da,true):=by
 intro rest
 induction rest with
 | nil =>
  intro n acc h ha;have:=drop_nil h;have z1:=confText_size cf;have s1:=shortText_size (show (confText cf).1.size ≤ 34359738367 by omega);have s2:=shortText_size (show da.size ≤ 34359738367 by omega);refine Ev.step (fun _ => rfl) ?_;simp only [spec_Encode.l0];rw [encRows];exact Ev.neg (by omega) (Ev.bind (spec_ConfText_ev cf (by omega)) (Ev.bind (spec_l05Short_ev _ (by omega)) (Ev.pos (by simp at ha;omega) (Ev.bind (spec_l05Short_ev da (by omega)) (Ev.pos (by rw [size_append];simp at ha;omega) (Ev.now _))))))
 | cons x r ih =>
  intro n acc h ha;obtain ⟨h1,-,h3⟩:=drop_cons h;have hm : x ∈ es:=List.mem_of_mem_drop (h ▸ List.mem_cons_self);have hx':=hd x hm;have he:=entryText_size 1 x.f0 x.f1 x.f2;have hs:=shortText_size (show (entryText 1 x.f0 x.f1 x.f2).1.size ≤ 34359738367 by omega);rw [List.length_cons] at ha;refine Ev.step (fun _ => rfl) ?_;simp only [spec_Encode.l0,rdT37_drop h,wrap64_succ (show n ≤ 9223372036854775806 by omega)];rw [encRows];exact Ev.pos (by omega) (Ev.pos (by omega) (Ev.bind (spec_EntryText_ev _ _ _ _ (by omega)) (Ev.bind (spec_l05Short_ev _ (by omega)) (Ev.pos (by omega) (ih (n + 1) _ h3 (by rw [size_append];omega))))))
theorem spec_Encode_ev (kd fr tt tm ix lt cm : Int) (ok : Bool) (es : List S37) (cf : List Int) (da : ByteArray) (la : Bool) (hx : es.length ≤ 1048576) (hd : ∀ x ∈ es, x.f2.size ≤ 1048576) (hc : cf.length ≤ 1048576) : Ev (fun k => spec_Encode.f k kd fr tt tm ix lt cm ok es cf da la) (encode kd fr tt tm ix lt cm ok es cf da la) := by
 unfold spec_Encode.f encode
 refine Ev.bind (spec_MessageOk_ev kd fr tt tm ix lt cm ok es cf da la hx hd hc) ?_
 cases hk : msgOk kd fr tt tm ix lt cm ok es cf da la
 ·exact Ev.neg (by simp) (Ev.done (by simp))
 obtain ⟨b1,b2,b3,b4,b5,b6,b7,b8,-⟩:=msgOk_bounds kd fr tt tm ix lt cm ok es cf da la hk;have s1:=varText_size (show tm.toNat ≤ 34359738367 by omega);have s2:=varText_size (show ix.toNat ≤ 34359738367 by omega);have s3:=varText_size (show lt.toNat ≤ 34359738367 by omega);have s4:=varText_size (show cm.toNat ≤ 34359738367 by omega);have s5:=varText_size (show es.length ≤ 34359738367 by omega)
 have s6 : (strOfNums [kd % 256,fr % 256,tt % 256]).size = 3:=by rw [strOfNums_size];rfl
 have f1:=flagT_size ok;have f2:=flagT_size la;have hz:=encHead_size kd fr tt tm ix lt cm ok la es.length b1.2 b2.2 b3.2 b4.2 b5;refine Ev.pos rfl (Ev.call rfl (Ev.bind (spec_l01Var_ev tm (by omega) (by omega)) (Ev.pos (by omega) (Ev.bind (spec_l01Var_ev ix (by omega) (by omega)) (Ev.pos (by simp only [size_append];omega) (Ev.bind (spec_l01Var_ev lt (by omega) (by omega)) (Ev.pos (by simp only [size_append];omega) (Ev.bind (spec_l01Var_ev cm (by omega) (by omega)) (Ev.pos (by simp only [size_append];omega) ?_)))))))));refine Ev.call (spec_l14Flag_eq ok) (Ev.pos (by simp only [size_append];omega) (Ev.call (spec_l14Flag_eq la) (Ev.pos (by simp only [size_append];omega) (Ev.bind (spec_l01Var_nat _ (by omega)) (Ev.pos (by simp only [size_append];omega) ?_)))));exact Ev.eq (spec_Encode_loop kd fr tt tm ix lt cm ok es cf da la b5 b6 b7 b8 es 0 (encHead kd fr tt tm ix lt cm ok la es.length) rfl (by omega)) (by simp)
theorem impl_Encode_conf (kd fr tt tm ix lt cm : Int) (ok : Bool) (es : List S37) (cf : List Int) (da : ByteArray) (la : Bool) (hc : cf.length ≤ 4) (hda : da.size ≤ 60) (hcf : confOk cf = true ∨ cf = []) (s : ByteArray) (hs : s.size ≤ 10000) : ∀ (rest : List Int) (n : Nat) (acc : List Int), cf.drop n = rest → acc ++ rest.map (· % 256) = cf.map (· % 256) →
  Ev (fun k => impl_Encode.l1 k s acc cf (cf.length : Int) (n : Int) kd fr tt tm ix lt cm ok es cf da la) (s ++ shortText (confText cf).1 ++ shortText da,true):=by
 have hct : (confText cf).1 = strOfNums (cf.map (· % 256)):=by
  rcases hcf with h|h
  ·rw [confText,if_pos h]
  ·subst h;rfl
 intro rest
 induction rest with
 | nil =>
  intro n acc h ha;have:=drop_nil h;rw [List.map_nil,List.append_nil] at ha;have z1:=confText_size cf;have s1:=shortText_size (show (confText cf).1.size ≤ 34359738367 by omega);have s2:=shortText_size (show da.size ≤ 34359738367 by omega);refine Ev.step (fun _ => rfl) ?_;simp only [impl_Encode.l1];rw [ha,← hct];exact Ev.neg (by omega) (Ev.bind (impl_ShortText_ev _ (by omega)) (Ev.bind (impl_ShortText_ev da (by omega)) (Ev.pos (by dsimp only;omega) (Ev.pos (by rw [size_append];dsimp only;omega) (Ev.now _)))))
 | cons x r ih =>
  intro n acc h ha;obtain ⟨h1,-,h3⟩:=drop_cons h
  have hl : acc.length ≤ 4:=by
   have:=congrArg List.length ha
   simp at this
   omega
  refine Ev.step (fun _ => rfl) ?_;simp only [impl_Encode.l1,drop_rd h,wrap64_succ (show n ≤ 9223372036854775806 by omega)];exact Ev.pos (by omega) (Ev.pos (by omega) (Ev.pos (by omega) (Ev.pos (by omega) (ih (n + 1) _ h3 (by rw [← ha];simp)))))
theorem impl_Encode_loop (kd fr tt tm ix lt cm : Int) (ok : Bool) (es : List S37) (cf : List Int) (da : ByteArray) (la : Bool) (hx : es.length ≤ 4) (hd : ∀ x ∈ es, x.f2.size ≤ 120) (hc : cf.length ≤ 4) (hda : da.size ≤ 60) (hcf : confOk cf = true ∨ cf = []) : ∀ (rest : List S37) (n : Nat) (acc : ByteArray), es.drop n = rest → acc.size + 200 * rest.length ≤ 10000 →
  Ev (fun k => impl_Encode.l0 k acc es (es.length : Int) (n : Int) kd fr tt tm ix lt cm ok es cf da la) (encRows acc rest ++ shortText (confText cf).1 ++ shortText da,true):=by
 intro rest
 induction rest with
 | nil =>
  intro n acc h ha;have:=drop_nil h;refine Ev.step (fun _ => rfl) ?_;simp only [impl_Encode.l0];rw [encRows];exact Ev.neg (by omega) (impl_Encode_conf kd fr tt tm ix lt cm ok es cf da la hc hda hcf acc (by simp at ha;omega) cf 0 [] rfl (by simp))
 | cons x r ih =>
  intro n acc h ha;obtain ⟨h1,-,h3⟩:=drop_cons h;have hm : x ∈ es:=List.mem_of_mem_drop (h ▸ List.mem_cons_self);have hx':=hd x hm;have he:=entryText_size 1 x.f0 x.f1 x.f2;have hs:=shortText_size (show (entryText 1 x.f0 x.f1 x.f2).1.size ≤ 34359738367 by omega);rw [List.length_cons] at ha;refine Ev.step (fun _ => rfl) ?_;simp only [impl_Encode.l0,rdT37_drop h,wrap64_succ (show n ≤ 9223372036854775806 by omega)];rw [encRows];exact Ev.pos (by omega) (Ev.pos (by omega) (Ev.pos (by omega) (Ev.bind (impl_EntryText_ev _ _ _ _ (by omega)) (Ev.bind (impl_ShortText_ev _ (by omega)) (Ev.pos (by dsimp only;omega) (ih (n + 1) _ h3 (by dsimp only;rw [size_append];omega)))))))
theorem impl_Encode_ev (kd fr tt tm ix lt cm : Int) (ok : Bool) (es : List S37) (cf : List Int) (da : ByteArray) (la : Bool) (hx : es.length ≤ 1048576) (hd : ∀ x ∈ es, x.f2.size ≤ 1048576) (hc : cf.length ≤ 1048576) : Ev (fun k => impl_Encode.f k kd fr tt tm ix lt cm ok es cf da la) (encode kd fr tt tm ix lt cm ok es cf da la) := by
 unfold impl_Encode.f encode
 refine Ev.bind (impl_MessageOk_ev kd fr tt tm ix lt cm ok es cf da la hx hd hc) ?_
 cases hk : msgOk kd fr tt tm ix lt cm ok es cf da la
 ·exact Ev.neg (by simp) (Ev.done (by simp))
 obtain ⟨b1,b2,b3,b4,b5,b6,b7,b8,b9⟩:=msgOk_bounds kd fr tt tm ix lt cm ok es cf da la hk;have s1:=varText_size (show tm.toNat ≤ 34359738367 by omega);have s2:=varText_size (show ix.toNat ≤ 34359738367 by omega);have s3:=varText_size (show lt.toNat ≤ 34359738367 by omega);have s4:=varText_size (show cm.toNat ≤ 34359738367 by omega);have s5:=varText_size (show es.length ≤ 34359738367 by omega)
 have s6 : (strOfNums [kd % 256,fr % 256,tt % 256]).size = 3:=by rw [strOfNums_size];rfl
 have f1:=flagT_size ok;have f2:=flagT_size la;have hz:=encHead_size kd fr tt tm ix lt cm ok la es.length b1.2 b2.2 b3.2 b4.2 b5
 have ev : varsOf [tm,ix,lt,cm] = (varText tm.toNat ++ (varText ix.toNat ++ (varText lt.toNat ++ varText cm.toNat)),true):=by
  rw [varsOf,if_pos (by simp [inR_true];omega)]
  simp [varText,strOfNums_append]
 refine Ev.pos rfl (Ev.bind (Ev.eq (impl_vars_ev _ (by simp)) ev) (Ev.bind (impl_VarText_nat _ (by omega)) (Ev.call rfl (Ev.pos (by simp only [size_append];omega) ?_))));refine Ev.call (impl_flag_eq ok) (Ev.pos (by simp only [size_append];omega) (Ev.call (impl_flag_eq la) (Ev.pos (by simp only [size_append];omega) (Ev.pos (by simp only [size_append];omega) ?_))))
 have e : strOfNums [kd % 256,fr % 256,tt % 256] ++ (varText tm.toNat ++ (varText ix.toNat ++ (varText lt.toNat ++ varText cm.toNat))) ++ flagT ok ++ flagT la ++ varText es.length = encHead kd fr tt tm ix lt cm ok la es.length:=by
  simp only [encHead,ByteArray.append_assoc]
 simp only [e];exact Ev.eq (impl_Encode_loop kd fr tt tm ix lt cm ok es cf da la b5 b6 b7 b8 b9 es 0 _ rfl (by omega)) (by simp)
theorem FnExactEncode_q (kd fr tt tm ix lt cm : Int) (ok : Bool) (es : List S167) (cf : List Int) (da : ByteArray) (la : Bool) (q : (Lit.int .i64 kd).wf = true ∧ (Lit.int .i64 fr).wf = true ∧ (Lit.int .i64 tt).wf = true ∧ (Lit.int .i64 tm).wf = true ∧ (Lit.int .i64 ix).wf = true ∧ (Lit.int .i64 lt).wf = true ∧ (Lit.int .i64 cm).wf = true ∧ True ∧
  (es.length * 32 ≤ 140737488351232 ∧ ∀ x ∈ es,(Lit.int .i64 x.f0).wf = true ∧ (Lit.int .i64 x.f1).wf = true ∧ x.f2.size ≤ 140737488351232) ∧ (cf.length * 8 ≤ 140737488351232 ∧ ∀ x ∈ cf,(Lit.int .i64 x).wf = true) ∧ da.size ≤ 140737488351232 ∧ True) :
  ∃ k,laws_FnExactEncode.f k kd fr tt tm ix lt cm ok es cf da la = some true:=by
 apply Ev.rounds
 unfold laws_FnExactEncode.f
 obtain ⟨-,-,-,-,-,-,-,-,⟨q1,q2⟩,⟨q3,-⟩,q4,-⟩:=q;obtain ⟨r,hr,hb⟩:=laws_szMessage_ev kd fr tt tm ix lt cm ok es cf da la (by omega) (fun x hx => (q2 x hx).2.2) (by omega) q4;refine Ev.bind hr (Ev.ite (fun _ => Ev.now _) (fun hn => ?_));obtain ⟨hl,hd,hc,-⟩:=hb hn
 have hm : (es.map toEntry).length ≤ 1048576:=by simpa using hl
 have hd' : ∀ x ∈ es.map toEntry,x.f2.size ≤ 1048576:=by
  intro x hx;obtain ⟨y,hy,rfl⟩:=List.mem_map.1 hx;exact hd y hy
 have ht:=laws_toMessage_ev kd fr tt tm ix lt cm ok es cf da la hl hc;refine Ev.bind ht (Ev.bind (spec_Encode_ev _ _ _ _ _ _ _ _ _ _ _ _ hm hd' hc) (Ev.bind ht (Ev.bind (impl_Encode_ev _ _ _ _ _ _ _ _ _ _ _ _ hm hd' hc) (Ev.pos rfl ?_))));refine Ev.step (fun _ => rfl) ?_;simp only [laws_FnExactEncode.j0];exact Ev.neg (by simp) (Ev.bind ht (Ev.bind (laws_eqMessage_refl _ _ _ _ _ _ _ _ _ _ _ _ (by first|omega|(dsimp only;omega)) (by first|omega|(dsimp only;omega))) (Ev.pos rfl (Ev.now _))))
end Go.Proofs.Ytgpafelepkhdoaa.Pure
