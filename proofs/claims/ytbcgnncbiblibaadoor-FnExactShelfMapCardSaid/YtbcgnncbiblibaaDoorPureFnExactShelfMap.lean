/- The pure statement of the law FnExactShelfMap: it answers true. For all arguments; no further condition. -/
import Derived.Test.YtbcgnncbiblibaaDoorPFnExactShelfMapx12
import Derived.Test.YtbcgnncbiblibaaDoorVFnExactShelfMapBase
namespace Go.Proofs.YtbcgnncbiblibaaDoor.Pure
open Go.RowKit Go.Proofs.YtbcgnncbiblibaaDoor.PFnExactShelfMap Go.Proofs.YtbcgnncbiblibaaDoorW.PrintWords Go.Proofs.YtbcgnncbiblibaaDoorW.PrintLast Go.Proofs.YtbcgnncbiblibaaDoor.Base
set_option linter.unusedVariables false
theorem laws_markText_loop : ∀ (n : Nat) (acc : ByteArray), acc.size + n ≤ 4611686018427387904 → Ev (fun k => laws_markText.l0 k (n : Int) acc) (markTextL n acc) := by
 intro n
 induction n using Nat.strongRecOn with
 | ind n ih =>
  intro acc h;refine Ev.step (fun _ => rfl) ?_;simp only [laws_markText.l0,tdiv10 n (by omega),tmod10 n,Option.bind_some,strOfNums_size,List.length_singleton];rw [markTextL];refine Ev.ite (fun hc => ?_) (fun hc => ?_)
  ·rw [if_pos (show n > 0 by omega)];exact Ev.pos (by omega) (ih (n / 10) (by omega) _ (by rw [size_append,strOfNums_size,List.length_singleton];omega))
  ·rw [if_neg (show ¬ n > 0 by omega)];exact Ev.pos (by omega) (Ev.now _)
theorem laws_markText_ev (m : Int) (hm : m ≤ 4611686018427387904) : Ev (fun k => laws_markText.f k m) (markTextOf m) := by
 unfold laws_markText.f markTextOf
 by_cases hc : m ≤ 0
 ·rw [if_pos hc];exact Ev.pos hc (Ev.now _)
 ·rw [if_neg hc];obtain ⟨n,rfl⟩:=Int.eq_ofNat_of_zero_le (show 0 ≤ m by omega);exact Ev.neg hc (laws_markText_loop n _ (by show 0 + n ≤ _;omega))
theorem rdT91_drop {xs : List S91} {n : Nat} {x : S91} {t : List S91} (h : xs.drop n = x :: t) : rd_T91 xs (n : Int) = x := by
 unfold rd_T91
 rw [Int.toNat_natCast];exact (drop_cons h).2.1 _
theorem rdT91_get {xs : List S91} {n : Nat} (h : n < xs.length) : xs[n]? = some (rd_T91 xs (n : Int)) := by
 unfold rd_T91
 rw [Int.toNat_natCast];exact getD_get h
theorem rdT62_drop {xs : List S62} {n : Nat} {x : S62} {t : List S62} (h : xs.drop n = x :: t) : rd_T62 xs (n : Int) = x := by
 unfold rd_T62
 rw [Int.toNat_natCast];exact (drop_cons h).2.1 _
theorem rdT62_at {a : List S62} {n : Nat} (h : a.length = n) (v : S62) (t : List S62) : rd_T62 (a ++ v :: t) (n : Int) = v := by
 unfold rd_T62
 rw [Int.toNat_natCast];exact getD_at h v t _
theorem rdT62_get {xs : List S62} {n : Nat} (h : n < xs.length) : xs[n]? = some (rd_T62 xs (n : Int)) := by
 unfold rd_T62
 rw [Int.toNat_natCast];exact getD_get h
theorem laws_szFile_some (x0 : ByteArray) (x1 : ByteArray) (c : Int) (hc0 : 0 ≤ c) (hc : c ≤ 1048576) (h0 : x0.size ≤ 140737488351232) (h1 : x1.size ≤ 140737488351232) :
  ∃ r,laws_szFile.f x0 x1 c = some r ∧ (¬ r < 0 → r = c - ((x0.size + x1.size : Nat) : Int)):=by
 unfold laws_szFile.f wrap64
 by_cases c0 : (c - (x0.size : Int) + 9223372036854775808) % 18446744073709551616 - 9223372036854775808 < 0
 ·exact ⟨-1,by rw [if_pos c0],by omega⟩
 rw [if_neg c0]
 by_cases c1 : (((c - (x0.size : Int) + 9223372036854775808) % 18446744073709551616 - 9223372036854775808) - (x1.size : Int) + 9223372036854775808) % 18446744073709551616 - 9223372036854775808 < 0
 ·exact ⟨-1,by rw [if_pos c1],by omega⟩
 rw [if_neg c1];exact ⟨_,rfl,by omega⟩
def wtFile (x : S91) : Nat := x.f0.size + x.f1.size
theorem laws_szFileS_loop (xs : List S91) (hx : xs.length ≤ 1048576) : ∀ (rest : List S91) (n : Nat) (c : Int), xs.drop n = rest → (∀ x ∈ rest, x.f0.size ≤ 140737488351232 ∧ x.f1.size ≤ 140737488351232) → 0 ≤ c → c ≤ 1048576 →
  ∃ r,Ev (fun k => laws_szFileS.l0 k xs c (n : Int)) r ∧ (¬ r < 0 → r = c - (((rest.map wtFile).sum : Nat) : Int)):=by
 intro rest
 induction rest with
 | nil =>
  intro n c h _ h0 h1;have:=drop_nil h;refine ⟨c,Ev.step (fun _ => rfl) ?_,by simp⟩;simp only [laws_szFileS.l0];exact Ev.neg (by omega) (Ev.now _)
 | cons x t ih =>
  intro n c h hq0 h0 h1;obtain ⟨hn,-,h3⟩:=drop_cons h;have hq:=hq0 x List.mem_cons_self;obtain ⟨r,hr,hb⟩:=laws_szFile_some x.f0 x.f1 c h0 h1 hq.1 hq.2
  by_cases hc : r < 0
  ·refine ⟨-1,Ev.step (fun _ => rfl) ?_,by omega⟩;simp only [laws_szFileS.l0,rdT91_drop h];exact Ev.pos (by omega) (Ev.pos (by omega) (Ev.call hr (Ev.pos hc (Ev.now _))))
  ·have hb:=hb hc;obtain ⟨r',hr',hb'⟩:=ih (n + 1) r h3 (fun y hy => hq0 y (List.mem_cons_of_mem _ hy)) (by omega) (by omega);refine ⟨r',Ev.step (fun _ => rfl) ?_,fun hn => ?_⟩
   ·simp only [laws_szFileS.l0,rdT91_drop h,wrap64_succ (show n ≤ 9223372036854775806 by omega)];exact Ev.pos (by omega) (Ev.pos (by omega) (Ev.call hr (Ev.neg hc hr')))
   ·have:=hb' hn;rw [List.map_cons,List.sum_cons,wtFile]
    omega
theorem laws_szFileS_ev (xs : List S91) (hx : xs.length ≤ 17592186044416) (hq : ∀ x ∈ xs, x.f0.size ≤ 140737488351232 ∧ x.f1.size ≤ 140737488351232) (c : Int) (h0 : 0 ≤ c) (h1 : c ≤ 1048576) :
  ∃ r,Ev (fun k => laws_szFileS.f k xs c) r ∧ (¬ r < 0 → r = c - ((xs.length + (xs.map wtFile).sum : Nat) : Int)):=by
 unfold laws_szFileS.f
 rw [wrap64_id (by omega) (by omega)]
 by_cases hc : c - (xs.length : Int) < 0
 ·exact ⟨-1,Ev.pos hc (Ev.now _),by omega⟩
 ·obtain ⟨r,hr,hb⟩:=laws_szFileS_loop xs (by omega) xs 0 (c - (xs.length : Int)) rfl hq (by omega) (by omega);exact ⟨r,Ev.neg hc hr,fun hn => by have:=hb hn;omega⟩
def toFile (x : S91) : S62 := ⟨x.f0, x.f1⟩
theorem laws_toFileS_loop (xs : List S91) (hx : xs.length ≤ 1048576) : ∀ (d n : Nat), n + d = xs.length →
  Ev (fun k => laws_toFileS.l0 k xs ((xs.map toFile).take n ++ List.replicate d z62) (n : Int)) (xs.map toFile):=by
 intro d
 induction d with
 | zero =>
  intro n h;refine Ev.step (fun _ => rfl) ?_;simp only [laws_toFileS.l0];exact Ev.neg (by omega) (Ev.done (by rw [List.take_of_length_le (by simp;omega)];simp))
 | succ d ih =>
  intro n h;refine Ev.step (fun _ => rfl) ?_;simp only [laws_toFileS.l0,wrap64_succ (show n ≤ 9223372036854775806 by omega)];refine Ev.pos (by omega) (Ev.pos (by omega) (Ev.call rfl (Ev.pos (by simp;omega) (Ev.congr (fun k => ?_) (ih (n + 1) (by omega))))));rw [Int.toNat_natCast,set_fill (xs.map toFile) n d z62 _ (by simpa using h) (by rw [List.getElem?_map,rdT91_get (show n < xs.length by omega)];rfl)]
theorem laws_toFileS_ev (xs : List S91) (hx : xs.length ≤ 1048576) : Ev (fun k => laws_toFileS.f k xs) (xs.map toFile) := by
 unfold laws_toFileS.f
 refine Ev.pos (by omega) (Ev.pos (by omega) ?_);exact Ev.congr (fun k => by simp) (laws_toFileS_loop xs hx xs.length 0 (by omega))
theorem laws_eqFile_refl (x0 : ByteArray) (x1 : ByteArray) : laws_eqFile.f x0 x1 x0 x1 = some true := by simp [laws_eqFile.f]
theorem laws_eqFileS_loop (xs : List S62) (hx : xs.length ≤ 9223372036854775806) : ∀ (rest : List S62) (n : Nat), xs.drop n = rest → Ev (fun k => laws_eqFileS.l0 k xs xs (n : Int)) true := by
 intro rest
 induction rest with
 | nil =>
  intro n h;have:=drop_nil h;refine Ev.step (fun _ => rfl) ?_;simp only [laws_eqFileS.l0];exact Ev.neg (by omega) (Ev.now _)
 | cons x t ih =>
  intro n h;obtain ⟨h1,-,h3⟩:=drop_cons h;refine Ev.step (fun _ => rfl) ?_;simp only [laws_eqFileS.l0,wrap64_succ (show n ≤ 9223372036854775806 by omega)];exact Ev.pos (by omega) (Ev.pos (by omega) (Ev.pos (by omega) (Ev.call (laws_eqFile_refl _ _) (Ev.pos rfl (ih (n + 1) h3)))))
theorem laws_eqFileS_refl (xs : List S62) (hx : xs.length ≤ 9223372036854775806) : Ev (fun k => laws_eqFileS.f k xs xs) true :=
 Ev.pos rfl (laws_eqFileS_loop xs hx xs 0 rfl)
def mkFile (m : Int) : S62 := ⟨markTextOf (m), markTextOf (m + 1)⟩
def markedFile : List S62 → Int → List S62
 | [],_ => []
 | _ :: t,m => mkFile m :: markedFile t (m + 1 + 1)
theorem laws_markFileS_loop : ∀ (rest done : List S62) (n : Nat) (m : Int), done.length = n → 0 ≤ m → m + 2 * (rest.length : Int) ≤ 4611686018427387904 → n + rest.length ≤ 1152921504606846976 →
  Ev (fun k => laws_markFileS.l0 k (done ++ rest) m (n : Int)) (m + 2 * (rest.length : Int),done ++ markedFile rest m):=by
 intro rest
 induction rest with
 | nil =>
  intro done n m hd h0 hm hb;refine Ev.step (fun _ => rfl) ?_;simp only [laws_markFileS.l0];exact Ev.neg (by rw [List.append_nil];omega) (Ev.done (by simp [markedFile]))
 | cons x t ih =>
  intro done n m hd h0 hm hb
  have hn : n ≤ 9223372036854775806:=by rw [List.length_cons] at hb;omega
  have hm' : m + 2 ≤ 4611686018427387904:=by rw [List.length_cons] at hm;omega
  have w1 : wrap64 (m + 1) = m + 1:=wrap64_id (by omega) (by omega);have w2 : wrap64 (m + 1 + 1) = m + 1 + 1:=wrap64_id (by omega) (by omega);have ih:=ih (done ++ [mkFile m]) (n + 1) (m + 1 + 1) (by simp [hd]) (by omega) (by rw [List.length_cons] at hm;omega) (by rw [List.length_cons] at hb;omega);refine Ev.step (fun _ => rfl) ?_;simp only [laws_markFileS.l0,wrap64_succ hn,Int.toNat_natCast,set_at hd,rdT62_at hd,Option.bind_some,w1,w2];refine Ev.pos (by rw [List.length_append,List.length_cons];omega) (Ev.bind (laws_markText_ev (m) (by omega)) (Ev.pos (by omega) (Ev.bind (laws_markText_ev (m + 1) (by omega)) (?_))))
  try simp only [Option.bind_some,set_at hd,rdT62_at hd]
  refine Ev.eq (Ev.congr (fun k => ?_) ih) ?_
  ·simp only [List.append_assoc,List.cons_append,List.nil_append];rfl
  ·rw [markedFile,List.append_assoc,List.length_cons];refine Prod.ext ?_ rfl;show (m + 1 + 1) + 2 * (t.length : Int) = m + 2 * ((t.length + 1 : Nat) : Int)
   omega
theorem laws_markFileS_ev (l : List S62) (m : Int) (h0 : 0 ≤ m) (hm : m + 2 * (l.length : Int) ≤ 4611686018427387904) (hl : l.length ≤ 1152921504606846976) : Ev (fun k => laws_markFileS.f k l m) (m + 2 * (l.length : Int), markedFile l m) :=
 laws_markFileS_loop l [] 0 m rfl h0 hm (by omega)
theorem rdT74_drop {xs : List S74} {n : Nat} {x : S74} {t : List S74} (h : xs.drop n = x :: t) : rd_T74 xs (n : Int) = x := by
 unfold rd_T74
 rw [Int.toNat_natCast];exact (drop_cons h).2.1 _
theorem rdT74_at {a : List S74} {n : Nat} (h : a.length = n) (v : S74) (t : List S74) : rd_T74 (a ++ v :: t) (n : Int) = v := by
 unfold rd_T74
 rw [Int.toNat_natCast];exact getD_at h v t _
theorem laws_eqPair_refl (x0 : ByteArray) (x1 : ByteArray) : laws_eqPair.f x0 x1 x0 x1 = some true := by simp [laws_eqPair.f]
theorem laws_eqPairS_loop (xs : List S74) (hx : xs.length ≤ 9223372036854775806) : ∀ (rest : List S74) (n : Nat), xs.drop n = rest → Ev (fun k => laws_eqPairS.l0 k xs xs (n : Int)) true := by
 intro rest
 induction rest with
 | nil =>
  intro n h;have:=drop_nil h;refine Ev.step (fun _ => rfl) ?_;simp only [laws_eqPairS.l0];exact Ev.neg (by omega) (Ev.now _)
 | cons x t ih =>
  intro n h;obtain ⟨h1,-,h3⟩:=drop_cons h;refine Ev.step (fun _ => rfl) ?_;simp only [laws_eqPairS.l0,wrap64_succ (show n ≤ 9223372036854775806 by omega)];exact Ev.pos (by omega) (Ev.pos (by omega) (Ev.pos (by omega) (Ev.call (laws_eqPair_refl _ _) (Ev.pos rfl (ih (n + 1) h3)))))
theorem laws_eqPairS_refl (xs : List S74) (hx : xs.length ≤ 9223372036854775806) : Ev (fun k => laws_eqPairS.f k xs xs) true :=
 Ev.pos rfl (laws_eqPairS_loop xs hx xs 0 rfl)
def mkPair (m : Int) : S74 := ⟨markTextOf (m), markTextOf (m + 1)⟩
def markedPair : List S74 → Int → List S74
 | [],_ => []
 | _ :: t,m => mkPair m :: markedPair t (m + 1 + 1)
theorem markedPair_length : ∀ (l : List S74) (m : Int), (markedPair l m).length = l.length
 | [],_ => rfl
 | x :: t,m => by rw [markedPair,List.length_cons,List.length_cons,markedPair_length t]
theorem laws_markPairS_loop : ∀ (rest done : List S74) (n : Nat) (m : Int), done.length = n → 0 ≤ m → m + 2 * (rest.length : Int) ≤ 4611686018427387904 → n + rest.length ≤ 1152921504606846976 →
  Ev (fun k => laws_markPairS.l0 k (done ++ rest) m (n : Int)) (m + 2 * (rest.length : Int),done ++ markedPair rest m):=by
 intro rest
 induction rest with
 | nil =>
  intro done n m hd h0 hm hb;refine Ev.step (fun _ => rfl) ?_;simp only [laws_markPairS.l0];exact Ev.neg (by rw [List.append_nil];omega) (Ev.done (by simp [markedPair]))
 | cons x t ih =>
  intro done n m hd h0 hm hb
  have hn : n ≤ 9223372036854775806:=by rw [List.length_cons] at hb;omega
  have hm' : m + 2 ≤ 4611686018427387904:=by rw [List.length_cons] at hm;omega
  have w1 : wrap64 (m + 1) = m + 1:=wrap64_id (by omega) (by omega);have w2 : wrap64 (m + 1 + 1) = m + 1 + 1:=wrap64_id (by omega) (by omega);have ih:=ih (done ++ [mkPair m]) (n + 1) (m + 1 + 1) (by simp [hd]) (by omega) (by rw [List.length_cons] at hm;omega) (by rw [List.length_cons] at hb;omega);refine Ev.step (fun _ => rfl) ?_;simp only [laws_markPairS.l0,wrap64_succ hn,Int.toNat_natCast,set_at hd,rdT74_at hd,Option.bind_some,w1,w2];refine Ev.pos (by rw [List.length_append,List.length_cons];omega) (Ev.bind (laws_markText_ev (m) (by omega)) (Ev.pos (by omega) (Ev.bind (laws_markText_ev (m + 1) (by omega)) (?_))))
  try simp only [Option.bind_some,set_at hd,rdT74_at hd]
  refine Ev.eq (Ev.congr (fun k => ?_) ih) ?_
  ·simp only [List.append_assoc,List.cons_append,List.nil_append];rfl
  ·rw [markedPair,List.append_assoc,List.length_cons];refine Prod.ext ?_ rfl;show (m + 1 + 1) + 2 * (t.length : Int) = m + 2 * ((t.length + 1 : Nat) : Int)
   omega
theorem laws_markPairS_ev (l : List S74) (m : Int) (h0 : 0 ≤ m) (hm : m + 2 * (l.length : Int) ≤ 4611686018427387904) (hl : l.length ≤ 1152921504606846976) : Ev (fun k => laws_markPairS.f k l m) (m + 2 * (l.length : Int), markedPair l m) :=
 laws_markPairS_loop l [] 0 m rfl h0 hm (by omega)
theorem laws_heldPairS_loop (xs : List S74) (hx : xs.length ≤ 1152921504606846976) : ∀ (rest : List S74) (n : Nat) (m : Int), xs.drop n = markedPair rest m → 0 ≤ m → m + 2 * (rest.length : Int) ≤ 4611686018427387904 →
  Ev (fun k => laws_heldPairS.l0 k xs m (n : Int)) (m + 2 * (rest.length : Int)):=by
 intro rest
 induction rest with
 | nil =>
  intro n m h h0 hm;have:=drop_nil h;refine Ev.step (fun _ => rfl) ?_;simp only [laws_heldPairS.l0];exact Ev.neg (by omega) (Ev.done (by simp))
 | cons x t ih =>
  intro n m h h0 hm;rw [markedPair] at h;obtain ⟨h1,-,h3⟩:=drop_cons h
  have hm' : m + 2 ≤ 4611686018427387904:=by rw [List.length_cons] at hm;omega
  have w1 : wrap64 (m + 1) = m + 1:=wrap64_id (by omega) (by omega);have w2 : wrap64 (m + 1 + 1) = m + 1 + 1:=wrap64_id (by omega) (by omega);have ih:=ih (n + 1) (m + 1 + 1) h3 (by omega) (by rw [List.length_cons] at hm;omega);refine Ev.step (fun _ => rfl) ?_;simp only [laws_heldPairS.l0,wrap64_succ (show n ≤ 9223372036854775806 by omega),rdT74_drop h,w1,w2];refine Ev.pos (by omega) (Ev.pos (by omega) (Ev.bind (laws_markText_ev (m) (by omega)) (Ev.pos rfl (Ev.bind (laws_markText_ev (m + 1) (by omega)) (Ev.pos rfl (?_))))));refine Ev.eq ih ?_;rw [List.length_cons];show (m + 1 + 1) + 2 * (t.length : Int) = m + 2 * ((t.length + 1 : Nat) : Int)
  omega
theorem laws_heldPairS_ev (l : List S74) (m : Int) (h0 : 0 ≤ m) (hm : m + 2 * (l.length : Int) ≤ 4611686018427387904) (hl : l.length ≤ 1152921504606846976) : Ev (fun k => laws_heldPairS.f k (markedPair l m) m) (m + 2 * (l.length : Int)) :=
 laws_heldPairS_loop _ (by rw [markedPair_length];omega) l 0 m rfl h0 hm
theorem rdT93_drop {xs : List S93} {n : Nat} {x : S93} {t : List S93} (h : xs.drop n = x :: t) : rd_T93 xs (n : Int) = x := by
 unfold rd_T93
 rw [Int.toNat_natCast];exact (drop_cons h).2.1 _
theorem rdT93_get {xs : List S93} {n : Nat} (h : n < xs.length) : xs[n]? = some (rd_T93 xs (n : Int)) := by
 unfold rd_T93
 rw [Int.toNat_natCast];exact getD_get h
theorem rdT71_drop {xs : List S71} {n : Nat} {x : S71} {t : List S71} (h : xs.drop n = x :: t) : rd_T71 xs (n : Int) = x := by
 unfold rd_T71
 rw [Int.toNat_natCast];exact (drop_cons h).2.1 _
theorem rdT71_at {a : List S71} {n : Nat} (h : a.length = n) (v : S71) (t : List S71) : rd_T71 (a ++ v :: t) (n : Int) = v := by
 unfold rd_T71
 rw [Int.toNat_natCast];exact getD_at h v t _
theorem laws_szSpot_some (x0 : ByteArray) (x1 : Int) (x2 : Int) (x3 : Int) (c : Int) (hc0 : 0 ≤ c) (hc : c ≤ 1048576) (h0 : x0.size ≤ 140737488351232) :
  ∃ r,laws_szSpot.f x0 x1 x2 x3 c = some r ∧ (¬ r < 0 → r = c - ((x0.size : Nat) : Int)):=by
 unfold laws_szSpot.f wrap64
 by_cases c0 : (c - (x0.size : Int) + 9223372036854775808) % 18446744073709551616 - 9223372036854775808 < 0
 ·exact ⟨-1,by rw [if_pos c0],by omega⟩
 rw [if_neg c0];exact ⟨_,rfl,by omega⟩
def wtSpot (x : S93) : Nat := x.f0.size
theorem laws_szSpotS_loop (xs : List S93) (hx : xs.length ≤ 1048576) : ∀ (rest : List S93) (n : Nat) (c : Int), xs.drop n = rest → (∀ x ∈ rest, x.f0.size ≤ 140737488351232) → 0 ≤ c → c ≤ 1048576 →
  ∃ r,Ev (fun k => laws_szSpotS.l0 k xs c (n : Int)) r ∧ (¬ r < 0 → r = c - (((rest.map wtSpot).sum : Nat) : Int)):=by
 intro rest
 induction rest with
 | nil =>
  intro n c h _ h0 h1;have:=drop_nil h;refine ⟨c,Ev.step (fun _ => rfl) ?_,by simp⟩;simp only [laws_szSpotS.l0];exact Ev.neg (by omega) (Ev.now _)
 | cons x t ih =>
  intro n c h hq0 h0 h1;obtain ⟨hn,-,h3⟩:=drop_cons h;have hq:=hq0 x List.mem_cons_self;obtain ⟨r,hr,hb⟩:=laws_szSpot_some x.f0 x.f1 x.f2 x.f3 c h0 h1 hq
  by_cases hc : r < 0
  ·refine ⟨-1,Ev.step (fun _ => rfl) ?_,by omega⟩;simp only [laws_szSpotS.l0,rdT93_drop h];exact Ev.pos (by omega) (Ev.pos (by omega) (Ev.call hr (Ev.pos hc (Ev.now _))))
  ·have hb:=hb hc;obtain ⟨r',hr',hb'⟩:=ih (n + 1) r h3 (fun y hy => hq0 y (List.mem_cons_of_mem _ hy)) (by omega) (by omega);refine ⟨r',Ev.step (fun _ => rfl) ?_,fun hn => ?_⟩
   ·simp only [laws_szSpotS.l0,rdT93_drop h,wrap64_succ (show n ≤ 9223372036854775806 by omega)];exact Ev.pos (by omega) (Ev.pos (by omega) (Ev.call hr (Ev.neg hc hr')))
   ·have:=hb' hn;rw [List.map_cons,List.sum_cons,wtSpot]
    omega
theorem laws_szSpotS_ev (xs : List S93) (hx : xs.length ≤ 17592186044416) (hq : ∀ x ∈ xs, x.f0.size ≤ 140737488351232) (c : Int) (h0 : 0 ≤ c) (h1 : c ≤ 1048576) :
  ∃ r,Ev (fun k => laws_szSpotS.f k xs c) r ∧ (¬ r < 0 → r = c - ((xs.length + (xs.map wtSpot).sum : Nat) : Int)):=by
 unfold laws_szSpotS.f
 rw [wrap64_id (by omega) (by omega)]
 by_cases hc : c - (xs.length : Int) < 0
 ·exact ⟨-1,Ev.pos hc (Ev.now _),by omega⟩
 ·obtain ⟨r,hr,hb⟩:=laws_szSpotS_loop xs (by omega) xs 0 (c - (xs.length : Int)) rfl hq (by omega) (by omega);exact ⟨r,Ev.neg hc hr,fun hn => by have:=hb hn;omega⟩
def toSpot (x : S93) : S71 := ⟨x.f0, x.f1, x.f2, x.f3⟩
theorem laws_toSpotS_loop (xs : List S93) (hx : xs.length ≤ 1048576) : ∀ (d n : Nat), n + d = xs.length →
  Ev (fun k => laws_toSpotS.l0 k xs ((xs.map toSpot).take n ++ List.replicate d z71) (n : Int)) (xs.map toSpot):=by
 intro d
 induction d with
 | zero =>
  intro n h;refine Ev.step (fun _ => rfl) ?_;simp only [laws_toSpotS.l0];exact Ev.neg (by omega) (Ev.done (by rw [List.take_of_length_le (by simp;omega)];simp))
 | succ d ih =>
  intro n h;refine Ev.step (fun _ => rfl) ?_;simp only [laws_toSpotS.l0,wrap64_succ (show n ≤ 9223372036854775806 by omega)];refine Ev.pos (by omega) (Ev.pos (by omega) (Ev.call rfl (Ev.pos (by simp;omega) (Ev.congr (fun k => ?_) (ih (n + 1) (by omega))))));rw [Int.toNat_natCast,set_fill (xs.map toSpot) n d z71 _ (by simpa using h) (by rw [List.getElem?_map,rdT93_get (show n < xs.length by omega)];rfl)]
theorem laws_toSpotS_ev (xs : List S93) (hx : xs.length ≤ 1048576) : Ev (fun k => laws_toSpotS.f k xs) (xs.map toSpot) := by
 unfold laws_toSpotS.f
 refine Ev.pos (by omega) (Ev.pos (by omega) ?_);exact Ev.congr (fun k => by simp) (laws_toSpotS_loop xs hx xs.length 0 (by omega))
theorem laws_eqSpot_refl (x0 : ByteArray) (x1 : Int) (x2 : Int) (x3 : Int) : laws_eqSpot.f x0 x1 x2 x3 x0 x1 x2 x3 = some true := by simp [laws_eqSpot.f]
theorem laws_eqSpotS_loop (xs : List S71) (hx : xs.length ≤ 9223372036854775806) : ∀ (rest : List S71) (n : Nat), xs.drop n = rest → Ev (fun k => laws_eqSpotS.l0 k xs xs (n : Int)) true := by
 intro rest
 induction rest with
 | nil =>
  intro n h;have:=drop_nil h;refine Ev.step (fun _ => rfl) ?_;simp only [laws_eqSpotS.l0];exact Ev.neg (by omega) (Ev.now _)
 | cons x t ih =>
  intro n h;obtain ⟨h1,-,h3⟩:=drop_cons h;refine Ev.step (fun _ => rfl) ?_;simp only [laws_eqSpotS.l0,wrap64_succ (show n ≤ 9223372036854775806 by omega)];exact Ev.pos (by omega) (Ev.pos (by omega) (Ev.pos (by omega) (Ev.call (laws_eqSpot_refl _ _ _ _) (Ev.pos rfl (ih (n + 1) h3)))))
theorem laws_eqSpotS_refl (xs : List S71) (hx : xs.length ≤ 9223372036854775806) : Ev (fun k => laws_eqSpotS.f k xs xs) true :=
 Ev.pos rfl (laws_eqSpotS_loop xs hx xs 0 rfl)
def mkSpot (m : Int) : S71 := ⟨markTextOf (m), m + 1, m + 1 + 1, m + 1 + 1 + 1⟩
def markedSpot : List S71 → Int → List S71
 | [],_ => []
 | _ :: t,m => mkSpot m :: markedSpot t (m + 1 + 1 + 1 + 1)
theorem laws_markSpotS_loop : ∀ (rest done : List S71) (n : Nat) (m : Int), done.length = n → 0 ≤ m → m + 4 * (rest.length : Int) ≤ 4611686018427387904 → n + rest.length ≤ 1152921504606846976 →
  Ev (fun k => laws_markSpotS.l0 k (done ++ rest) m (n : Int)) (m + 4 * (rest.length : Int),done ++ markedSpot rest m):=by
 intro rest
 induction rest with
 | nil =>
  intro done n m hd h0 hm hb;refine Ev.step (fun _ => rfl) ?_;simp only [laws_markSpotS.l0];exact Ev.neg (by rw [List.append_nil];omega) (Ev.done (by simp [markedSpot]))
 | cons x t ih =>
  intro done n m hd h0 hm hb
  have hn : n ≤ 9223372036854775806:=by rw [List.length_cons] at hb;omega
  have hm' : m + 4 ≤ 4611686018427387904:=by rw [List.length_cons] at hm;omega
  have w1 : wrap64 (m + 1) = m + 1:=wrap64_id (by omega) (by omega);have w2 : wrap64 (m + 1 + 1) = m + 1 + 1:=wrap64_id (by omega) (by omega);have w3 : wrap64 (m + 1 + 1 + 1) = m + 1 + 1 + 1:=wrap64_id (by omega) (by omega);have w4 : wrap64 (m + 1 + 1 + 1 + 1) = m + 1 + 1 + 1 + 1:=wrap64_id (by omega) (by omega);have ih:=ih (done ++ [mkSpot m]) (n + 1) (m + 1 + 1 + 1 + 1) (by simp [hd]) (by omega) (by rw [List.length_cons] at hm;omega) (by rw [List.length_cons] at hb;omega);refine Ev.step (fun _ => rfl) ?_;simp only [laws_markSpotS.l0,wrap64_succ hn,Int.toNat_natCast,set_at hd,rdT71_at hd,Option.bind_some,w1,w2,w3,w4];refine Ev.pos (by rw [List.length_append,List.length_cons];omega) (Ev.bind (laws_markText_ev (m) (by omega)) (Ev.pos (by omega) (?_)))
  try simp only [Option.bind_some,set_at hd,rdT71_at hd]
  refine Ev.eq (Ev.congr (fun k => ?_) ih) ?_
  ·simp only [List.append_assoc,List.cons_append,List.nil_append];rfl
  ·rw [markedSpot,List.append_assoc,List.length_cons];refine Prod.ext ?_ rfl;show (m + 1 + 1 + 1 + 1) + 4 * (t.length : Int) = m + 4 * ((t.length + 1 : Nat) : Int)
   omega
theorem laws_markSpotS_ev (l : List S71) (m : Int) (h0 : 0 ≤ m) (hm : m + 4 * (l.length : Int) ≤ 4611686018427387904) (hl : l.length ≤ 1152921504606846976) : Ev (fun k => laws_markSpotS.f k l m) (m + 4 * (l.length : Int), markedSpot l m) :=
 laws_markSpotS_loop l [] 0 m rfl h0 hm (by omega)
theorem spec_l01In_eq (a b c : Int) : spec_l01In.f a b c = some (inR a b c) := by
 unfold spec_l01In.f inR
 by_cases h : b ≤ a
 ·rw [if_pos h];simp [h]
 ·rw [if_neg h];simp [h]
theorem impl_within_eq (a b c : Int) : impl_within.f a b c = some (inR a b c) := by
 unfold impl_within.f inR
 by_cases h : b ≤ a
 ·rw [if_pos h];simp [h]
 ·rw [if_neg h];simp [h]
theorem laws_toIntS_loop (xs : List Int) (hx : xs.length ≤ 1048576) : ∀ (d n : Nat), n + d = xs.length →
  Ev (fun k => laws_toIntS.l0 k xs (xs.take n ++ List.replicate d 0) (n : Int)) xs:=by
 intro d
 induction d with
 | zero =>
  intro n h;refine Ev.step (fun _ => rfl) ?_;simp only [laws_toIntS.l0];exact Ev.neg (by omega) (Ev.done (by rw [List.take_of_length_le (by omega)];simp))
 | succ d ih =>
  intro n h;refine Ev.step (fun _ => rfl) ?_;simp only [laws_toIntS.l0,wrap64_succ (show n ≤ 9223372036854775806 by omega)];refine Ev.pos (by omega) (Ev.pos (by omega) (Ev.pos (by simp;omega) (Ev.eq (Ev.congr (fun k => ?_) (ih (n + 1) (by omega))) rfl)));rw [Int.toNat_natCast,set_fill xs n d 0 _ h (by rw [rd_nat];exact getD_get (by omega))]
theorem laws_toIntS_ev (xs : List Int) (hx : xs.length ≤ 1048576) : Ev (fun k => laws_toIntS.f k xs) xs := by
 unfold laws_toIntS.f
 refine Ev.pos (by omega) (Ev.pos (by omega) ?_);exact Ev.congr (fun k => by simp) (laws_toIntS_loop xs hx xs.length 0 (by omega))
theorem laws_eqIntS_loop (xs : List Int) (hx : xs.length ≤ 9223372036854775806) : ∀ (rest : List Int) (n : Nat), xs.drop n = rest → Ev (fun k => laws_eqIntS.l0 k xs xs (n : Int)) true := by
 intro rest
 induction rest with
 | nil =>
  intro n h;have:=drop_nil h;refine Ev.step (fun _ => rfl) ?_;simp only [laws_eqIntS.l0];exact Ev.neg (by omega) (Ev.now _)
 | cons x t ih =>
  intro n h;obtain ⟨h1,-,h3⟩:=drop_cons h;refine Ev.step (fun _ => rfl) ?_;simp only [laws_eqIntS.l0,wrap64_succ (show n ≤ 9223372036854775806 by omega)];exact Ev.pos (by omega) (Ev.pos (by omega) (Ev.pos (by omega) (Ev.pos trivial (ih (n + 1) h3))))
theorem laws_eqIntS_refl (xs : List Int) (hx : xs.length ≤ 9223372036854775806) : Ev (fun k => laws_eqIntS.f k xs xs) true :=
 Ev.pos rfl (laws_eqIntS_loop xs hx xs 0 rfl)
theorem laws_markIntS_loop (m : Int) (hm : 0 ≤ m) (hm' : m ≤ 1152921504606846976) : ∀ (d : Nat) (n : Nat) (rest : List Int), rest.length = d → n + d ≤ 1152921504606846976 →
  Ev (fun k => laws_markIntS.l0 k (upFrom m n ++ rest) (m + n) (n : Int)) (m + ((n + d : Nat) : Int),upFrom m (n + d)):=by
 intro d
 induction d with
 | zero =>
  intro n rest h hn;obtain rfl : rest = []:=List.eq_nil_of_length_eq_zero h;refine Ev.step (fun _ => rfl) ?_;simp only [laws_markIntS.l0];exact Ev.neg (by simp [upFrom_length]) (Ev.done (by simp))
 | succ d ih =>
  intro n rest h hn
  obtain ⟨x,t,rfl⟩ : ∃ x t,rest = x :: t:=by cases rest with|nil => simp at h|cons x t => exact ⟨x,t,rfl⟩
  refine Ev.step (fun _ => rfl) ?_;simp only [laws_markIntS.l0,wrap64_succ (show n ≤ 9223372036854775806 by omega),Int.toNat_natCast,set_mark _ x (m + n) t n (upFrom_length n m),← upFrom_snoc];rw [wrap64_id (by omega) (by omega)];refine Ev.pos (by simp [upFrom_length];omega) (Ev.pos (by omega) (Ev.eq (Ev.congr (fun k => ?_) (ih (n + 1) t (by simpa using h) (by omega))) ?_))
  ·rw [show m + (n : Int) + 1 = m + ((n + 1 : Nat) : Int) by omega]
  ·rw [show n + 1 + d = n + (d + 1) by omega]
theorem laws_markIntS_ev (l : List Int) (m : Int) (hm : 0 ≤ m) (hm' : m ≤ 1152921504606846976) (hl : l.length ≤ 1152921504606846976) : Ev (fun k => laws_markIntS.f k l m) (m + (l.length : Int), upFrom m l.length) := by
 have:=laws_markIntS_loop m hm hm' l.length 0 l rfl (by omega)
 unfold laws_markIntS.f;simpa [upFrom] using this
theorem spec_l05Key_eq (s : ByteArray) : spec_l05Key.f s = some (inR s.size 1 10) := by
 unfold spec_l05Key.f;rw [spec_l01In_eq];rfl
theorem impl_keyOk_eq (s : ByteArray) : impl_keyOk.f s = some (inR s.size 1 10) := by
 unfold impl_keyOk.f;rw [impl_within_eq];rfl
def spotOk (x : S71) : Bool := inR x.f0.size 1 10 && (inR x.f1 0 999 && (inR x.f2 0 20000 && inR x.f3 0 40))
def keyRise : Option ByteArray → ByteArray → Bool
 | none,_ => true
 | some q,s => Op.bytesLess q.toList s.toList
def dirIn : Option ByteArray → List S71 → Bool
 | _,[] => true
 | p,x :: t => spotOk x && (keyRise p x.f0 && dirIn (some x.f0) t)
def dirOk (l : List S71) : Bool := decide (l.length ≤ 60) && dirIn none l
def keyOf (xs : List S71) : Nat → Option ByteArray
 | 0 => none
 | n + 1 => some (rd_T71 xs (n : Int)).f0
theorem dirIn_mem : ∀ {l : List S71} {p : Option ByteArray}, dirIn p l = true → ∀ x ∈ l, spotOk x = true
 | [],_,_,x,hx => by cases hx
 | y :: t,p,h,x,hx => by
  rw [dirIn,Bool.and_eq_true,Bool.and_eq_true] at h
  rcases List.mem_cons.1 hx with rfl|hx
  ·exact h.1
  ·exact dirIn_mem h.2.2 x hx
theorem spec_DirOk_loop (l : List S71) (hl : l.length ≤ 1048576) : ∀ (rest : List S71) (n : Nat), l.drop n = rest → Ev (fun k => spec_DirOk.l0 k l (n : Int)) (dirIn (keyOf l n) rest) := by
 intro rest
 induction rest with
 | nil =>
  intro n h;have:=drop_nil h;refine Ev.step (fun _ => rfl) ?_;simp only [spec_DirOk.l0];exact Ev.neg (by omega) (Ev.done (by simp [dirIn]))
 | cons x t ih =>
  intro n h;obtain ⟨h1,-,h3⟩:=drop_cons h
  have hk : keyOf l (n + 1) = some x.f0:=by rw [keyOf,rdT71_drop h]
  have ih:=ih (n + 1) h3;rw [hk] at ih
  have tail : ∀ r,r = (inR x.f1 0 999 && (inR x.f2 0 20000 && (inR x.f3 0 40 && dirIn (some x.f0) t))) → Ev (fun k => (spec_l01In.f x.f1 0 999).bind fun t1 => (if t1 = true then ((spec_l01In.f x.f2 0 20000).bind fun t2 => (if t2 = true then ((spec_l01In.f x.f3 0 40).bind fun t3 => (if t3 = true then (spec_DirOk.l0 k l ((n + 1 : Nat) : Int)) else (some false))) else (some false))) else (some false))) r:=by
   rintro r rfl;refine Ev.call (spec_l01In_eq _ _ _) ?_
   cases inR x.f1 0 999
   ·exact Ev.neg (by simp) (Ev.done (by simp))
   refine Ev.pos rfl (Ev.call (spec_l01In_eq _ _ _) ?_)
   cases inR x.f2 0 20000
   ·exact Ev.neg (by simp) (Ev.done (by simp))
   refine Ev.pos rfl (Ev.call (spec_l01In_eq _ _ _) ?_)
   cases inR x.f3 0 40
   ·exact Ev.neg (by simp) (Ev.done (by simp))
   exact Ev.pos rfl (Ev.eq ih (by simp))
  refine Ev.step (fun _ => rfl) ?_;simp only [spec_DirOk.l0,rdT71_drop h,wrap64_succ (show n ≤ 9223372036854775806 by omega)];refine Ev.pos (by omega) (Ev.pos (by omega) (Ev.call (spec_l05Key_eq _) ?_));rw [dirIn,spotOk]
  cases h0 : inR x.f0.size 1 10
  ·exact Ev.neg (by simp) (Ev.done (by simp))
  refine Ev.pos rfl ?_
  cases n with
  | zero => exact Ev.neg (by omega) (tail _ (by simp [keyOf,keyRise,Bool.and_assoc]))
  | succ m =>
   simp only [wrap64_pred (show m ≤ 9223372036854775806 by omega)];refine Ev.pos (by omega) (Ev.pos (by omega) (Ev.pos (by omega) (Ev.ite (fun hc => tail _ ?_) (fun hc => Ev.done ?_))))
   ·simp only [keyOf,keyRise,hc];simp [Bool.and_assoc]
   ·simp only [keyOf,keyRise,Bool.eq_false_iff.2 hc];simp
theorem spec_DirOk_ev (l : List S71) (hl : l.length ≤ 1048576) : Ev (fun k => spec_DirOk.f k l) (dirOk l) := by
 unfold spec_DirOk.f dirOk
 refine Ev.ite (fun hc => Ev.done ?_) (fun hc => Ev.eq (spec_DirOk_loop l hl l 0 rfl) ?_)
 ·rw [decide_eq_false (show ¬ l.length ≤ 60 by omega)];rfl
 ·rw [decide_eq_true (show l.length ≤ 60 by omega)];rfl
theorem impl_DirOk_loop (l : List S71) (hl : l.length ≤ 1048576) : ∀ (rest : List S71) (n : Nat), l.drop n = rest → Ev (fun k => impl_DirOk.l0 k l l (l.length : Int) (n : Int)) (decide (l.length ≤ 60) && dirIn (keyOf l n) rest) := by
 intro rest
 induction rest with
 | nil =>
  intro n h;have:=drop_nil h;refine Ev.step (fun _ => rfl) ?_;simp only [impl_DirOk.l0];refine Ev.neg (by omega) (Ev.done ?_);rw [dirIn,Bool.and_true];exact decide_eq_decide.2 (by omega)
 | cons x t ih =>
  intro n h;obtain ⟨h1,-,h3⟩:=drop_cons h
  have hk : keyOf l (n + 1) = some x.f0:=by rw [keyOf,rdT71_drop h]
  have ih:=ih (n + 1) h3;rw [hk] at ih;refine Ev.step (fun _ => rfl) ?_;simp only [impl_DirOk.l0,rdT71_drop h,wrap64_succ (show n ≤ 9223372036854775806 by omega)];refine Ev.pos (by omega) (Ev.pos (by omega) (Ev.pos (by omega) (Ev.call (impl_keyOk_eq _) ?_)));rw [dirIn,spotOk]
  cases h0 : inR x.f0.size 1 10
  ·exact Ev.neg (by simp) (Ev.done (by simp))
  refine Ev.pos rfl (Ev.call (impl_within_eq _ _ _) ?_)
  cases inR x.f1 0 999
  ·exact Ev.neg (by simp) (Ev.done (by simp))
  refine Ev.pos rfl (Ev.call (impl_within_eq _ _ _) ?_)
  cases inR x.f2 0 20000
  ·exact Ev.neg (by simp) (Ev.done (by simp))
  refine Ev.pos rfl (Ev.call (impl_within_eq _ _ _) ?_)
  cases inR x.f3 0 40
  ·exact Ev.neg (by simp) (Ev.done (by simp))
  refine Ev.pos rfl ?_
  cases n with
  | zero => exact Ev.neg (by omega) (Ev.eq ih (by simp [keyOf,keyRise]))
  | succ m =>
   simp only [wrap64_pred (show m ≤ 9223372036854775806 by omega)];refine Ev.pos (by omega) (Ev.pos (by omega) (Ev.pos (by omega) (Ev.ite (fun hc => Ev.eq ih ?_) (fun hc => Ev.done ?_))))
   ·simp only [keyOf,keyRise,hc];simp
   ·simp only [keyOf,keyRise,Bool.eq_false_iff.2 hc];simp
theorem impl_DirOk_ev (l : List S71) (hl : l.length ≤ 1048576) : Ev (fun k => impl_DirOk.f k l) (dirOk l) :=
 impl_DirOk_loop l hl l 0 rfl
theorem spec_Decimal_zero : Ev (fun k => spec_Decimal.f k 0) (⟨#[48]⟩ : ByteArray) := Ev.pos rfl (Ev.now _)
theorem spec_l01Figure_dig (n : Nat) : spec_l01Figure.f (Int.tmod (n : Int) 10) = some (((48 + n % 10 : Nat)) : Int) := by
 unfold spec_l01Figure.f
 rw [if_pos (by rw [Int.tmod_eq_emod_of_nonneg (by omega)];omega),tmod10]
theorem strOfNums_one (n : Nat) (h : n < 256) : strOfNums [(n : Int)] = ⟨#[UInt8.ofNat n]⟩ := by
 simp [strOfNums]
theorem digits_big {n : Nat} (h : ¬ n < 10) : Lib.decDigits n = Lib.decDigits (n / 10) ++ [UInt8.ofNat (48 + n % 10)] := by
 rw [Lib.decDigits,dif_neg h]
theorem digits_small {n : Nat} (h : n < 10) : Lib.decDigits n = [UInt8.ofNat (48 + n)] := by
 rw [Lib.decDigits,dif_pos h]
def digT (n : Nat) : ByteArray := ⟨(Lib.decDigits n).toArray⟩
theorem digT_big {n : Nat} (h : ¬ n < 10) (a : ByteArray) : digT n ++ a = digT (n / 10) ++ (strOfNums [((48 + n % 10 : Nat) : Int)] ++ a) := by
 rw [strOfNums_one _ (by omega),digT,digits_big h,digT,← ByteArray.append_assoc]
 congr 1
theorem digT_small {n : Nat} (h : n < 10) : digT n = strOfNums [((48 + n % 10 : Nat) : Int)] := by
 rw [strOfNums_one _ (by omega),digT,digits_small h,Nat.mod_eq_of_lt h]
theorem spec_Decimal_loop : ∀ (n : Nat) (a : ByteArray), 0 < n → a.size + n ≤ 4611686018427387904 → Ev (fun k => spec_Decimal.l0 k (n : Int) false a) (digT n ++ a) := by
 intro n
 induction n using Nat.strongRecOn with
 | ind n ih =>
  intro a h0 h;refine Ev.step (fun _ => rfl) ?_
  have ht : ¬ Int.tmod (n : Int) 10 < 0:=by rw [Int.tmod_eq_emod_of_nonneg (by omega)];omega
  simp only [spec_Decimal.l0,tdiv10 n (by omega)];refine Ev.neg (by omega) (Ev.neg ht (Ev.call (spec_l01Figure_dig n) (Ev.call rfl ?_)));simp only [strOfNums_size,List.length_singleton];refine Ev.pos (by omega) ?_
  by_cases hc : n < 10
  ·rw [show n / 10 = 0 by omega,digT_small hc];refine Ev.step (fun _ => rfl) ?_;simp only [spec_Decimal.l0];exact Ev.pos rfl (Ev.neg (by simp) (Ev.now _))
  ·rw [digT_big hc];exact ih (n / 10) (by omega) _ (by omega) (by rw [size_append,strOfNums_size,List.length_singleton];omega)
theorem spec_Decimal_nat (n : Nat) (h : n ≤ 4611686018427387904) : Ev (fun k => spec_Decimal.f k (n : Int)) (digT n) := by
 by_cases h0 : n = 0
 ·subst h0;exact Ev.eq spec_Decimal_zero (by rw [digT,digits_small (by omega)];rfl)
 ·unfold spec_Decimal.f
  rw [decide_eq_false (show ¬ ((n : Nat) : Int) < 0 by omega)];exact Ev.neg (by omega) (Ev.eq (spec_Decimal_loop n ⟨#[]⟩ (by omega) (by show 0 + n ≤ _;omega)) (by show digT n ++ ByteArray.empty = _;simp))
theorem digits_len (n : Nat) : (Lib.decDigits n).length ≤ n + 1 := by
 induction n using Nat.strongRecOn with
 | ind n ih =>
  by_cases hc : n < 10
  ·rw [digits_small hc];simp
  ·rw [digits_big hc,List.length_append,List.length_singleton];have:=ih (n / 10) (by omega)
   omega
theorem digT_size (n : Nat) : (digT n).size ≤ n + 1 := by
 show (Lib.decDigits n).toArray.size ≤ n + 1;rw [List.size_toArray];exact digits_len n
theorem itoa_nat (n : Nat) : (⟨(Lib.itoa (n : Int)).toArray⟩ : ByteArray) = digT n := by
 rw [Lib.itoa,if_neg (by omega),Int.toNat_natCast];rfl
def segT (n : Int) : ByteArray := if inR n 0 999 = true then (⟨#[103]⟩ : ByteArray) ++ digT n.toNat else ⟨#[]⟩
theorem spec_SegName_ev (n : Int) : Ev (fun k => spec_SegName.f k n) (segT n) := by
 unfold spec_SegName.f segT
 refine Ev.call (spec_l01In_eq _ _ _) ?_
 cases hb : inR n 0 999
 ·exact Ev.neg (by simp) (Ev.done (by simp))
 ·have:=inR_true.1 hb;obtain ⟨m,rfl⟩:=Int.eq_ofNat_of_zero_le this.1;have hs:=digT_size m;exact Ev.pos rfl (Ev.bind (spec_Decimal_nat m (by omega)) (Ev.pos (by omega) (Ev.done (by simp))))
theorem impl_SegName_eq (n : Int) : impl_SegName.f n = some (segT n) := by
 unfold impl_SegName.f segT
 rw [impl_within_eq,Option.bind_some]
 cases hb : inR n 0 999
 ·rw [if_neg (by simp),if_neg (by simp)]
 ·have:=inR_true.1 hb;obtain ⟨m,rfl⟩:=Int.eq_ofNat_of_zero_le this.1;have hs:=digT_size m;rw [if_pos rfl,if_pos rfl]
  unfold impl_Decimal.f
  rw [if_pos (by omega),if_pos (by omega),Option.bind_some,itoa_nat,if_pos (by omega),Int.toNat_natCast]
theorem laws_eqDisk_refl (l : List S62) (h : l.length ≤ 9223372036854775806) : Ev (fun k => laws_eqDisk.f k l l) true :=
 Ev.bind (laws_eqFileS_refl l h) (Ev.pos rfl (Ev.now _))
theorem laws_markDisk_ev (l : List S62) (m : Int) (h0 : 0 ≤ m) (hm : m + 2 * (l.length : Int) ≤ 4611686018427387904) (hl : l.length ≤ 1152921504606846976) : Ev (fun k => laws_markDisk.f k l m) (m + 2 * (l.length : Int), markedFile l m) :=
 Ev.bind (laws_markFileS_ev l m h0 hm hl) (Ev.now _)
def fileRise : Option ByteArray → ByteArray → Bool
 | none,_ => true
 | some q,s => Op.bytesLess q.toList s.toList
def filesIn : Option ByteArray → List S62 → Bool
 | _,[] => true
 | p,x :: t => inR x.f0.size 1 12 && (decide (x.f1.size ≤ 20000) && (fileRise p x.f0 && filesIn (some x.f0) t))
def diskOk (l : List S62) : Bool := decide (l.length ≤ 30) && filesIn none l
def nameOf (xs : List S62) : Nat → Option ByteArray
 | 0 => none
 | n + 1 => some (rd_T62 xs (n : Int)).f0
theorem spec_DiskOk_loop (l : List S62) (hl : l.length ≤ 1048576) : ∀ (rest : List S62) (n : Nat), l.drop n = rest → Ev (fun k => spec_DiskOk.l0 k (n : Int) l) (filesIn (nameOf l n) rest) := by
 intro rest
 induction rest with
 | nil =>
  intro n h;have:=drop_nil h;refine Ev.step (fun _ => rfl) ?_;simp only [spec_DiskOk.l0];exact Ev.neg (by omega) (Ev.done (by simp [filesIn]))
 | cons x t ih =>
  intro n h;obtain ⟨h1,-,h3⟩:=drop_cons h
  have hk : nameOf l (n + 1) = some x.f0:=by rw [nameOf,rdT62_drop h]
  have ih:=ih (n + 1) h3;rw [hk] at ih;refine Ev.step (fun _ => rfl) ?_;simp only [spec_DiskOk.l0,rdT62_drop h,wrap64_succ (show n ≤ 9223372036854775806 by omega)];refine Ev.pos (by omega) (Ev.pos (by omega) (Ev.call (spec_l01In_eq _ _ _) ?_));rw [filesIn]
  cases h0 : inR x.f0.size 1 12
  ·exact Ev.neg (by simp) (Ev.done (by simp))
  refine Ev.pos rfl (Ev.ite (fun hc => Ev.done ?_) (fun hc => ?_))
  ·rw [decide_eq_false (show ¬ x.f1.size ≤ 20000 by omega)];simp
  rw [decide_eq_true (show x.f1.size ≤ 20000 by omega)]
  cases n with
  | zero => exact Ev.neg (by omega) (Ev.eq ih (by simp [nameOf,fileRise]))
  | succ m =>
   simp only [wrap64_pred (show m ≤ 9223372036854775806 by omega)];refine Ev.pos (by omega) (Ev.pos (by omega) (Ev.pos (by omega) (Ev.ite (fun hc => Ev.eq ih ?_) (fun hc => Ev.done ?_))))
   ·simp only [nameOf,fileRise,hc];simp
   ·simp only [nameOf,fileRise,Bool.eq_false_iff.2 hc];simp
theorem spec_DiskOk_ev (l : List S62) (hl : l.length ≤ 1048576) : Ev (fun k => spec_DiskOk.f k l) (diskOk l) := by
 unfold spec_DiskOk.f diskOk
 refine Ev.ite (fun hc => Ev.done ?_) (fun hc => Ev.eq (spec_DiskOk_loop l hl l 0 rfl) ?_)
 ·rw [decide_eq_false (show ¬ l.length ≤ 30 by omega)];rfl
 ·rw [decide_eq_true (show l.length ≤ 30 by omega)];rfl
theorem impl_DiskOk_loop (l : List S62) (hl : l.length ≤ 1048576) : ∀ (rest : List S62) (n : Nat), l.drop n = rest → Ev (fun k => impl_DiskOk.l0 k l (l.length : Int) (n : Int) l) (filesIn (nameOf l n) rest && decide (l.length ≤ 30)) := by
 intro rest
 induction rest with
 | nil =>
  intro n h;have:=drop_nil h;refine Ev.step (fun _ => rfl) ?_;simp only [impl_DiskOk.l0];refine Ev.neg (by omega) (Ev.done ?_);rw [filesIn,Bool.true_and,decide_eq_decide];omega
 | cons x t ih =>
  intro n h;obtain ⟨h1,-,h3⟩:=drop_cons h
  have hk : nameOf l (n + 1) = some x.f0:=by rw [nameOf,rdT62_drop h]
  have ih:=ih (n + 1) h3;rw [hk] at ih;refine Ev.step (fun _ => rfl) ?_;simp only [impl_DiskOk.l0,rdT62_drop h,wrap64_succ (show n ≤ 9223372036854775806 by omega)];refine Ev.pos (by omega) (Ev.pos (by omega) (Ev.pos (by omega) (Ev.call (impl_within_eq _ _ _) ?_)));rw [filesIn]
  cases h0 : inR x.f0.size 1 12
  ·exact Ev.neg (by simp) (Ev.done (by simp))
  refine Ev.pos rfl (Ev.ite (fun hc => Ev.done ?_) (fun hc => ?_))
  ·rw [decide_eq_false (show ¬ x.f1.size ≤ 20000 by omega)];simp
  rw [decide_eq_true (show x.f1.size ≤ 20000 by omega)]
  cases n with
  | zero => exact Ev.neg (by omega) (Ev.eq ih (by simp [nameOf,fileRise]))
  | succ m =>
   simp only [wrap64_pred (show m ≤ 9223372036854775806 by omega)];refine Ev.pos (by omega) (Ev.pos (by omega) (Ev.pos (by omega) (Ev.ite (fun hc => Ev.eq ih ?_) (fun hc => Ev.done ?_))))
   ·simp only [nameOf,fileRise,hc];simp
   ·simp only [nameOf,fileRise,Bool.eq_false_iff.2 hc];simp
theorem impl_DiskOk_ev (l : List S62) (hl : l.length ≤ 1048576) : Ev (fun k => impl_DiskOk.f k l) (diskOk l) :=
 Ev.eq (impl_DiskOk_loop l hl l 0 rfl) (by rw [Bool.and_comm];rfl)
theorem less_irr : ∀ (a : List UInt8), Op.bytesLess a a = false
 | [] => rfl
 | a :: x => by
  have h1 : ¬ a < a:=fun e => by have:=UInt8.lt_iff_toNat_lt.mp e;omega
  simp [Op.bytesLess,h1,less_irr x]
theorem less_trans : ∀ {a b c : List UInt8}, Op.bytesLess a b = true → Op.bytesLess b c = true → Op.bytesLess a c = true
 | _,[],_,h,_ => by simp [Op.bytesLess] at h
 | _,_ :: _,[],_,h => by simp [Op.bytesLess] at h
 | [],_ :: _,_ :: _,_,_ => rfl
 | a :: x,b :: y,c :: z,h,k => by
  simp only [Op.bytesLess,Bool.or_eq_true,Bool.and_eq_true,decide_eq_true_iff,beq_iff_eq] at h k ⊢
  rcases h with h|⟨rfl,h⟩
  ·rcases k with k|⟨rfl,k⟩
   ·exact .inl (UInt8.lt_trans h k)
   ·exact .inl h
  ·rcases k with k|⟨rfl,k⟩
   ·exact .inl k
   ·exact .inr ⟨rfl,less_trans h k⟩
def lessK (a b : ByteArray) : Bool := Op.bytesLess a.toList b.toList
theorem cmp_less : ∀ (a b : List UInt8), (Lib.compareBytes a b < 0 ↔ Op.bytesLess a b = true) ∧ (Lib.compareBytes a b = 0 ↔ a = b)
 | [],[] => by simp [Lib.compareBytes,Op.bytesLess]
 | [],_ :: _ => by simp [Lib.compareBytes,Op.bytesLess]
 | _ :: _,[] => by simp [Lib.compareBytes,Op.bytesLess]
 | a :: x,b :: y => by
  obtain ⟨ih1,ih2⟩:=cmp_less x y
  unfold Lib.compareBytes
  simp only [Op.bytesLess,Bool.or_eq_true,Bool.and_eq_true,decide_eq_true_iff,beq_iff_eq,List.cons.injEq]
  by_cases h1 : a < b
  ·have h3 : ¬ a = b:=fun e => by subst e;exact absurd h1 (by rw [UInt8.lt_iff_toNat_lt];omega)
   rw [if_pos h1];exact ⟨by simp [h1],by simp [h3]⟩
  ·rw [if_neg h1]
   by_cases h2 : b < a
   ·have h3 : ¬ a = b:=fun e => by subst e;exact absurd h2 (by rw [UInt8.lt_iff_toNat_lt];omega)
    rw [if_pos h2];exact ⟨by simp [h1,h3],by simp [h3]⟩
   ·rw [if_neg h2]
    have e : a = b:=by
     rw [UInt8.lt_iff_toNat_lt] at h1 h2;exact UInt8.toNat_inj.mp (by omega)
    subst e;exact ⟨by rw [ih1];simp [h1],by rw [ih2];simp⟩
theorem name_lt (key : ByteArray) (x : S62) : nameCmp key x < 0 ↔ lessK x.f0 key = true := by unfold nameCmp lessK; rw [← ByteArray.toList_eq, ← ByteArray.toList_eq]; exact (cmp_less _ _).1
theorem name_eq (key : ByteArray) (x : S62) : nameCmp key x = 0 ↔ x.f0.toList = key.toList := by unfold nameCmp; rw [← ByteArray.toList_eq, ← ByteArray.toList_eq]; exact (cmp_less _ _).2
def namesUp (l : List S62) : Prop := l.Pairwise fun x y => lessK x.f0 y.f0 = true
theorem filesIn_up : ∀ (l : List S62) (p : Option ByteArray), filesIn p l = true → namesUp l ∧ ∀ q, p = some q → ∀ x ∈ l, lessK q x.f0 = true
 | [],_,_ => ⟨List.Pairwise.nil,fun _ _ x hx => by cases hx⟩
 | x :: t,p,h => by
  simp only [filesIn,Bool.and_eq_true] at h;obtain ⟨-,-,h3,h4⟩:=h;obtain ⟨i1,i2⟩:=filesIn_up t _ h4;have i2:=i2 _ rfl;refine ⟨List.Pairwise.cons i2 i1,?_⟩;rintro q rfl y hy
  rcases List.mem_cons.1 hy with rfl|hy
  ·exact h3
  ·exact less_trans h3 (i2 y hy)
theorem diskOk_up {l : List S62} (h : diskOk l = true) : l.length ≤ 30 ∧ namesUp l := by
 simp only [diskOk,Bool.and_eq_true,decide_eq_true_iff] at h;exact ⟨h.1,(filesIn_up l none h.2).1⟩
theorem ahead_at {l : List S62} (h : namesUp l) {i : Nat} {x : S62} {key : ByteArray} (hi : l[i]? = some x) (he : x.f0.toList = key.toList) : aheadN (nameCmp key) l = i ∧ stands (nameCmp key) l = true := by
 obtain ⟨h1,h2⟩:=List.getElem?_eq_some_iff.1 hi
 have ea : aheadN (nameCmp key) l = i:=by
  refine aheadN_eq _ l i (by omega) (fun t y ht hy => ?_) (fun t y ht hy => ?_)
  ·obtain ⟨k1,k2⟩:=List.getElem?_eq_some_iff.1 hy;rw [name_lt];have:=List.pairwise_iff_getElem.1 h t i k1 h1 ht;rw [h2,k2] at this
   unfold lessK at this ⊢
   rw [← he];exact this
  ·obtain ⟨k1,k2⟩:=List.getElem?_eq_some_iff.1 hy
   refine Int.not_lt.1 fun hn => ?_
   rw [name_lt] at hn
   rcases Nat.lt_or_eq_of_le ht with ht|rfl
   ·have:=List.pairwise_iff_getElem.1 h i t h1 k1 ht;rw [h2,k2] at this
    unfold lessK at this hn
    rw [he] at this;have:=less_trans this hn;rw [less_irr] at this;cases this
   ·have e : x = y:=by rw [← h2,← k2]
    subst e
    unfold lessK at hn
    rw [he,less_irr] at hn;cases hn
 refine ⟨ea,?_⟩
 unfold stands
 rw [ea,hi];exact decide_eq_true ((name_eq key x).2 he)
theorem stands_at {l : List S62} {key : ByteArray} (h : stands (nameCmp key) l = true) : ∃ x, l[aheadN (nameCmp key) l]? = some x ∧ x.f0.toList = key.toList := by
 unfold stands at h
 cases hx : l[aheadN (nameCmp key) l]? with
 | none => rw [hx] at h;cases h
 | some x => rw [hx] at h;exact ⟨x,rfl,(name_eq key x).1 (of_decide_eq_true h)⟩
theorem spec_l03At_loop (key : ByteArray) (l : List S62) (hl : l.length ≤ 1048576) (r : Int) (hr1 : ∀ i x, l[i]? = some x → x.f0.toList = key.toList → r = (i : Nat)) (hr2 : (∀ x ∈ l, x.f0.toList ≠ key.toList) → r = -1) :
  ∀ (rest : List S62) (n : Nat),l.drop n = rest → (∀ t x,t < n → l[t]? = some x → x.f0.toList ≠ key.toList) → Ev (fun k => spec_l03At.l0 k key (n : Int) l) r:=by
 intro rest
 induction rest with
 | nil =>
  intro n h hb;have:=drop_nil h;refine Ev.step (fun _ => rfl) ?_;simp only [spec_l03At.l0];refine Ev.neg (by omega) (Ev.done (hr2 fun x hx => ?_).symm);obtain ⟨i,hi,rfl⟩:=List.getElem_of_mem hx;exact hb i _ (by omega) (List.getElem?_eq_getElem hi)
 | cons x t ih =>
  intro n h hb;obtain ⟨h1,-,h3⟩:=drop_cons h
  have hx : l[n]? = some x:=by rw [rdT62_get h1,rdT62_drop h]
  refine Ev.step (fun _ => rfl) ?_;simp only [spec_l03At.l0,rdT62_drop h,wrap64_succ (show n ≤ 9223372036854775806 by omega)];refine Ev.pos (by omega) (Ev.pos (by omega) (Ev.ite (fun hc => Ev.done (hr1 n x hx hc).symm) (fun hc => ih (n + 1) h3 fun t y ht hy => ?_)))
  rcases Nat.lt_or_eq_of_le (Nat.le_of_lt_succ ht) with ht|rfl
  ·exact hb t y ht hy
  ·rw [hx] at hy;injection hy with hy;subst hy;exact hc
def placeAt (key : ByteArray) (l : List S62) : Int := if stands (nameCmp key) l = true then ((aheadN (nameCmp key) l : Nat) : Int) else -1
theorem spec_l03At_ev (l : List S62) (hl : l.length ≤ 1048576) (h : namesUp l) (key : ByteArray) : Ev (fun k => spec_l03At.f k l key) (placeAt key l) := by
 refine spec_l03At_loop key l hl _ (fun i x hi he => ?_) (fun hn => ?_) l 0 rfl (fun t x ht => absurd ht (Nat.not_lt_zero _))
 ·obtain ⟨e1,e2⟩:=ahead_at h hi he;rw [placeAt,if_pos e2,e1]
 ·rw [placeAt,if_neg];intro hs;obtain ⟨x,hx,he⟩:=stands_at hs;exact hn x (List.mem_of_getElem? hx) he
def textAt (key : ByteArray) (l : List S62) : ByteArray := if stands (nameCmp key) l = true then (rd_T62 l ((aheadN (nameCmp key) l : Nat) : Int)).f1 else ⟨#[]⟩
theorem spec_l03Text_ev (l : List S62) (hl : l.length ≤ 1048576) (h : namesUp l) (key : ByteArray) : Ev (fun k => spec_l03Text.f k l key) (textAt key l) := by
 unfold spec_l03Text.f textAt
 refine Ev.bind (spec_l03At_ev l hl h key) ?_
 unfold placeAt
 cases hs : stands (nameCmp key) l
 ·exact Ev.pos (by simp) (Ev.done (by simp))
 ·obtain ⟨x,hx,-⟩:=stands_at hs;obtain ⟨h1,-⟩:=List.getElem?_eq_some_iff.1 hx;rw [if_pos rfl,if_pos rfl];exact Ev.neg (by omega) (Ev.pos (by omega) (Ev.pos (by omega) (Ev.now _)))
theorem impl_fileNo_eq (l : List S62) (hl : l.length ≤ 1048576) (h : namesUp l) (key : ByteArray) : impl_fileNo.f l key = some (((aheadN (nameCmp key) l : Nat) : Int), stands (nameCmp key) l) := by
 unfold impl_fileNo.f
 rw [if_pos];rw [Bool.and_eq_true,decide_eq_true_iff,decide_eq_true_iff];refine ⟨by omega,h.imp fun {x y} hxy hy => ?_⟩;rw [name_lt] at hy ⊢;exact less_trans hxy hy
theorem impl_FileAt_ev (l : List S62) (hd : diskOk l = true) (key : ByteArray) : Ev (fun k => impl_FileAt.f k l key) (textAt key l, stands (nameCmp key) l) := by
 obtain ⟨hl,hu⟩:=diskOk_up hd
 unfold impl_FileAt.f textAt
 refine Ev.bind (impl_DiskOk_ev l (by omega)) ?_;rw [hd];refine Ev.pos rfl (Ev.call (impl_fileNo_eq l (by omega) hu key) ?_)
 cases hs : stands (nameCmp key) l
 ·exact Ev.neg (by simp) (Ev.done (by simp))
 ·obtain ⟨x,hx,-⟩:=stands_at hs;obtain ⟨h1,-⟩:=List.getElem?_eq_some_iff.1 hx;exact Ev.pos rfl (Ev.pos (by omega) (Ev.pos (by omega) (Ev.done (by simp))))
theorem spotOk_nums {x : S71} (h : spotOk x = true) : (1 ≤ x.f0.size ∧ x.f0.size ≤ 10) ∧ (0 ≤ x.f1 ∧ x.f1 ≤ 999) ∧ (0 ≤ x.f2 ∧ x.f2 ≤ 20000) ∧ (0 ≤ x.f3 ∧ x.f3 ≤ 40) := by
 simp only [spotOk,Bool.and_eq_true] at h;obtain ⟨h1,h2,h3,h4⟩:=h;have:=inR_true.1 h1;have:=inR_true.1 h2;have:=inR_true.1 h3;have:=inR_true.1 h4
 omega
def pairAt (d : List S62) (x : S71) : S74 := ⟨x.f0, (textAt (segT x.f1) d).extract x.f2.toNat (x.f2 + x.f3).toNat⟩
def mapRows (d : List S62) : List S71 → List S74 → List S74 × Bool
 | [],acc => (acc,true)
 | x :: t,acc => if x.f2 + x.f3 > ((textAt (segT x.f1) d).size : Int) then ([],false) else mapRows d t (acc ++ [pairAt d x])
theorem mapRows_len (d : List S62) : ∀ (l : List S71) (acc : List S74), (mapRows d l acc).1.length ≤ acc.length + l.length
 | [],acc => by simp [mapRows]
 | x :: t,acc => by
  rw [mapRows]
  split
  ·simp
  ·have:=mapRows_len d t (acc ++ [pairAt d x]);simp only [List.length_append,List.length_cons,List.length_nil] at this ⊢
   omega
def shelfMap (d : List S62) (dir : List S71) : List S74 × Bool := if (diskOk d && dirOk dir) = true then mapRows d dir [] else ([], false)
theorem spec_ShelfMap_loop (d : List S62) (hd : diskOk d = true) (s0 : List Int) (a1 a2 a3 : Int) (s4 : List Int) (dir : List S71) (a6 : Int) (hl : dir.length ≤ 1048576) : ∀ (rest : List S71) (n : Nat) (acc : List S74), dir.drop n = rest → (∀ x ∈ rest, spotOk x = true) → acc.length + rest.length ≤ 4000000 →
  Ev (fun k => spec_ShelfMap.l0 k acc (n : Int) d s0 a1 a2 a3 s4 dir a6) (mapRows d rest acc):=by
 obtain ⟨hdl,hu⟩:=diskOk_up hd;intro rest
 induction rest with
 | nil =>
  intro n acc h _ _;have:=drop_nil h;refine Ev.step (fun _ => rfl) ?_;simp only [spec_ShelfMap.l0];exact Ev.neg (by omega) (Ev.now _)
 | cons x t ih =>
  intro n acc h hm ha;obtain ⟨h1,-,h3⟩:=drop_cons h;obtain ⟨-,-,z2,z3⟩:=spotOk_nums (hm x List.mem_cons_self);rw [List.length_cons] at ha;refine Ev.step (fun _ => rfl) ?_;simp only [spec_ShelfMap.l0,rdT71_drop h,wrap64_succ (show n ≤ 9223372036854775806 by omega),wrap64_id (show -9223372036854775808 ≤ x.f2 + x.f3 by omega) (by omega)];refine Ev.pos (by omega) (Ev.pos (by omega) (Ev.bind (spec_SegName_ev x.f1) (Ev.bind (spec_l03Text_ev d (by omega) hu _) ?_)));rw [mapRows];refine Ev.ite (fun hc => Ev.done (by rw [if_pos hc])) (fun hc => ?_);rw [if_neg hc];exact Ev.pos (by omega) (Ev.pos (by omega) (Ev.pos (by omega) (Ev.pos (by omega) (ih (n + 1) _ h3 (fun y hy => hm y (List.mem_cons_of_mem _ hy)) (by simp only [List.length_append,List.length_cons,List.length_nil];omega)))))
theorem dirOk_all {l : List S71} (h : dirOk l = true) : l.length ≤ 60 ∧ ∀ x ∈ l, spotOk x = true := by
 rw [dirOk,Bool.and_eq_true,decide_eq_true_iff] at h;exact ⟨h.1,dirIn_mem h.2⟩
theorem spec_ShelfMap_ev (d : List S62) (hd : d.length ≤ 1048576) (s0 : List Int) (a1 a2 a3 : Int) (s4 : List Int) (dir : List S71) (a6 : Int) (hl : dir.length ≤ 1048576) : Ev (fun k => spec_ShelfMap.f k d s0 a1 a2 a3 s4 dir a6) (shelfMap d dir) := by
 unfold spec_ShelfMap.f shelfMap
 refine Ev.call rfl (Ev.bind (spec_DiskOk_ev d hd) ?_)
 cases h1 : diskOk d
 ·refine Ev.neg (by simp) (Ev.step (fun _ => rfl) ?_);simp only [spec_ShelfMap.j0];exact Ev.pos (by simp) (Ev.done (by simp))
 ·refine Ev.pos rfl (Ev.bind (spec_DirOk_ev dir hl) ?_);refine Ev.step (fun _ => rfl) ?_;simp only [spec_ShelfMap.j0]
  cases h2 : dirOk dir
  ·exact Ev.pos (by simp) (Ev.done (by simp))
  ·obtain ⟨k1,k2⟩:=dirOk_all h2;exact Ev.neg (by simp) (Ev.eq (spec_ShelfMap_loop d h1 s0 a1 a2 a3 s4 dir a6 hl dir 0 [] rfl k2 (by simp;omega)) (by simp))
theorem impl_ShelfMap_loop (d : List S62) (hd : diskOk d = true) (dir : List S71) (hl : dir.length ≤ 1048576) : ∀ (rest : List S71) (n : Nat) (acc : List S74), dir.drop n = rest → (∀ x ∈ rest, spotOk x = true) → acc.length + rest.length ≤ 4000000 →
  Ev (fun k => impl_ShelfMap.l0 k acc dir (dir.length : Int) (n : Int) d) (mapRows d rest acc):=by
 intro rest
 induction rest with
 | nil =>
  intro n acc h _ _;have:=drop_nil h;refine Ev.step (fun _ => rfl) ?_;simp only [impl_ShelfMap.l0];exact Ev.neg (by omega) (Ev.now _)
 | cons x t ih =>
  intro n acc h hm ha;obtain ⟨h1,-,h3⟩:=drop_cons h;obtain ⟨-,-,z2,z3⟩:=spotOk_nums (hm x List.mem_cons_self);rw [List.length_cons] at ha;refine Ev.step (fun _ => rfl) ?_;simp only [impl_ShelfMap.l0,rdT71_drop h,wrap64_succ (show n ≤ 9223372036854775806 by omega),wrap64_id (show -9223372036854775808 ≤ x.f2 + x.f3 by omega) (by omega)];refine Ev.pos (by omega) (Ev.pos (by omega) (Ev.pos (by omega) (Ev.call (impl_SegName_eq x.f1) (Ev.bind (impl_FileAt_ev d hd _) ?_))));rw [mapRows];refine Ev.ite (fun hc => Ev.done (by rw [if_pos hc])) (fun hc => ?_);rw [if_neg hc];dsimp only at hc;exact Ev.pos (by omega) (Ev.pos (by omega) (Ev.pos (by dsimp only;omega) (Ev.pos (by omega) (ih (n + 1) _ h3 (fun y hy => hm y (List.mem_cons_of_mem _ hy)) (by simp only [List.length_append,List.length_cons,List.length_nil];omega)))))
theorem impl_ShelfMap_ev (d : List S62) (hd : d.length ≤ 1048576) (s0 : List Int) (a1 a2 a3 : Int) (s4 : List Int) (dir : List S71) (a6 : Int) (hl : dir.length ≤ 1048576) : Ev (fun k => impl_ShelfMap.f k d s0 a1 a2 a3 s4 dir a6) (shelfMap d dir) := by
 unfold impl_ShelfMap.f shelfMap
 refine Ev.bind (impl_DiskOk_ev d hd) ?_
 cases h1 : diskOk d
 ·refine Ev.neg (by simp) (Ev.step (fun _ => rfl) ?_);simp only [impl_ShelfMap.j0];exact Ev.pos (by simp) (Ev.done (by simp))
 ·refine Ev.pos rfl (Ev.bind (impl_DirOk_ev dir hl) ?_);refine Ev.step (fun _ => rfl) ?_;simp only [impl_ShelfMap.j0]
  cases h2 : dirOk dir
  ·exact Ev.pos (by simp) (Ev.done (by simp))
  ·obtain ⟨k1,k2⟩:=dirOk_all h2;exact Ev.neg (by simp) (Ev.eq (impl_ShelfMap_loop d h1 dir hl dir 0 [] rfl k2 (by simp;omega)) (by simp))
theorem laws_szDisk_ev (xs : List S91) (hx : xs.length ≤ 17592186044416) (hq : ∀ x ∈ xs, x.f0.size ≤ 140737488351232 ∧ x.f1.size ≤ 140737488351232) (c : Int) (h0 : 0 ≤ c) (h1 : c ≤ 1048576) :
  ∃ r,Ev (fun k => laws_szDisk.f k xs c) r ∧ (¬ r < 0 → r = c - ((xs.length + (xs.map wtFile).sum : Nat) : Int)):=by
 obtain ⟨r,hr,hb⟩:=laws_szFileS_ev xs hx hq c h0 h1
 by_cases hn : r < 0
 ·exact ⟨-1,Ev.bind hr (Ev.pos hn (Ev.now _)),fun h => absurd (by omega) h⟩
 ·exact ⟨r,Ev.bind hr (Ev.neg hn (Ev.now _)),hb⟩
theorem laws_szManifest_some (s0 : List Int) (a b c : Int) (s4 : List Int) (m : Int) (h0 : 0 ≤ m) (h1 : m ≤ 1048576) (q0 : s0.length ≤ 17592186044416) (q4 : s4.length ≤ 17592186044416) :
  ∃ r,laws_szManifest.f s0 a b c s4 m = some r ∧ (¬ r < 0 → r = m - ((s0.length + s4.length : Nat) : Int)):=by
 unfold laws_szManifest.f laws_szIntS.f
 rw [wrap64_id (show -9223372036854775808 ≤ m - (s0.length : Int) by omega) (by omega)]
 by_cases g1 : m - (s0.length : Int) < 0
 ·exact ⟨-1,by simp [g1],fun h => absurd (by omega) h⟩
 rw [if_neg g1,Option.bind_some,if_neg g1,wrap64_id (show -9223372036854775808 ≤ m - (s0.length : Int) - (s4.length : Int) by omega) (by omega)]
 by_cases g2 : m - (s0.length : Int) - (s4.length : Int) < 0
 ·exact ⟨-1,by simp [g2],fun h => absurd (by omega) h⟩
 ·exact ⟨_,by rw [if_neg g2,Option.bind_some,if_neg g2],fun _ => by omega⟩
theorem laws_szShelf_ev (s0 : List Int) (a b c : Int) (s4 : List Int) (dir : List S93) (a6 : Int) (m : Int) (h0 : 0 ≤ m) (h1 : m ≤ 1048576) (q0 : s0.length ≤ 17592186044416) (q4 : s4.length ≤ 17592186044416) (q5 : dir.length ≤ 17592186044416) (hq : ∀ x ∈ dir, x.f0.size ≤ 140737488351232) :
  ∃ r,Ev (fun k => laws_szShelf.f k s0 a b c s4 dir a6 m) r ∧ (¬ r < 0 → r = m - ((s0.length + s4.length + (dir.length + (dir.map wtSpot).sum) : Nat) : Int)):=by
 obtain ⟨r,hr,hb⟩:=laws_szManifest_some s0 a b c s4 m h0 h1 q0 q4
 by_cases hn : r < 0
 ·exact ⟨-1,Ev.call hr (Ev.pos hn (Ev.now _)),fun h => absurd (by omega) h⟩
 have hb:=hb hn;obtain ⟨r2,hr2,hb2⟩:=laws_szSpotS_ev dir q5 hq r (by omega) (by omega)
 by_cases hn2 : r2 < 0
 ·exact ⟨-1,Ev.call hr (Ev.neg hn (Ev.bind hr2 (Ev.pos hn2 (Ev.now _)))),fun h => absurd (by omega) h⟩
 ·exact ⟨r2,Ev.call hr (Ev.neg hn (Ev.bind hr2 (Ev.neg hn2 (Ev.now _)))),fun _ => by have:=hb2 hn2;omega⟩
theorem laws_toDisk_ev (l : List S91) (hl : l.length ≤ 1048576) : Ev (fun k => laws_toDisk.f k l) (l.map toFile) := Ev.bind (laws_toFileS_ev l hl) (Ev.now _)
theorem laws_toManifest_ev (s0 : List Int) (a b c : Int) (s4 : List Int) (h0 : s0.length ≤ 1048576) (h4 : s4.length ≤ 1048576) : Ev (fun k => laws_toManifest.f k s0 a b c s4) (s0, a, b, c, s4) :=
 Ev.bind (laws_toIntS_ev s0 h0) (Ev.bind (laws_toIntS_ev s4 h4) (Ev.now _))
theorem laws_toShelf_ev (s0 : List Int) (a b c : Int) (s4 : List Int) (dir : List S93) (a6 : Int) (h0 : s0.length ≤ 1048576) (h4 : s4.length ≤ 1048576) (h5 : dir.length ≤ 1048576) : Ev (fun k => laws_toShelf.f k s0 a b c s4 dir a6) (s0, a, b, c, s4, dir.map toSpot, a6) :=
 Ev.bind (laws_toManifest_ev s0 a b c s4 h0 h4) (Ev.bind (laws_toSpotS_ev dir h5) (Ev.now _))
theorem laws_eqManifest_refl (s0 : List Int) (a b c : Int) (s4 : List Int) (h0 : s0.length ≤ 9223372036854775806) (h4 : s4.length ≤ 9223372036854775806) : Ev (fun k => laws_eqManifest.f k s0 a b c s4 s0 a b c s4) true :=
 Ev.bind (laws_eqIntS_refl s0 h0) (Ev.pos rfl (Ev.pos rfl (Ev.pos rfl (Ev.pos rfl (Ev.bind (laws_eqIntS_refl s4 h4) (Ev.pos rfl (Ev.now _)))))))
theorem laws_eqShelf_refl (s0 : List Int) (a b c : Int) (s4 : List Int) (dir : List S71) (a6 : Int) (h0 : s0.length ≤ 9223372036854775806) (h4 : s4.length ≤ 9223372036854775806) (h5 : dir.length ≤ 9223372036854775806) : Ev (fun k => laws_eqShelf.f k s0 a b c s4 dir a6 s0 a b c s4 dir a6) true :=
 Ev.bind (laws_eqManifest_refl s0 a b c s4 h0 h4) (Ev.pos rfl (Ev.bind (laws_eqSpotS_refl dir h5) (Ev.pos rfl (Ev.pos rfl (Ev.now _)))))
theorem laws_markManifest_ev (s0 : List Int) (a b c : Int) (s4 : List Int) (m : Int) (h0 : 0 ≤ m) (hm : m + (s0.length : Int) ≤ 1152921504606846976) (l0 : s0.length ≤ 1152921504606846976) (l4 : s4.length ≤ 1152921504606846976) : Ev (fun k => laws_markManifest.f k s0 a b c s4 m) (m + (s0.length : Int) + (s4.length : Int), upFrom m s0.length, upFrom (m + (s0.length : Int)) s4.length) :=
 Ev.bind (laws_markIntS_ev s0 m h0 (by omega) l0) (Ev.bind (laws_markIntS_ev s4 (m + (s0.length : Int)) (by omega) (by omega) l4) (Ev.now _))
theorem laws_markShelf_ev (s0 : List Int) (a b c : Int) (s4 : List Int) (dir : List S71) (a6 : Int) (m : Int) (h0 : 0 ≤ m) (hm : m + (s0.length : Int) + (s4.length : Int) + 4 * (dir.length : Int) ≤ 1152921504606846976) :
  Ev (fun k => laws_markShelf.f k s0 a b c s4 dir a6 m) (m + (s0.length : Int) + (s4.length : Int) + 4 * (dir.length : Int),upFrom m s0.length,upFrom (m + (s0.length : Int)) s4.length,markedSpot dir (m + (s0.length : Int) + (s4.length : Int))) :=
 Ev.bind (laws_markManifest_ev s0 a b c s4 m h0 (by omega) (by omega) (by omega)) (Ev.bind (laws_markSpotS_ev dir (m + (s0.length : Int) + (s4.length : Int)) (by omega) (by omega) (by omega)) (Ev.now _))
theorem FnExactShelfMap_q (l : List S91) (s0 : List Int) (a b c : Int) (s4 : List Int) (dir : List S93) (a6 : Int) (q : l.length * 32 ≤ 140737488351232 ∧ ∀ x ∈ l, x.f0.size ≤ 140737488351232 ∧ x.f1.size ≤ 140737488351232)
  (q' : ((s0.length * 8 ≤ 140737488351232 ∧ ∀ x ∈ s0,(Lit.int .i64 x).wf = true) ∧ (Lit.int .i64 a).wf = true ∧ (Lit.int .i64 b).wf = true ∧ (Lit.int .i64 c).wf = true ∧ (s4.length * 8 ≤ 140737488351232 ∧ ∀ x ∈ s4,(Lit.int .i64 x).wf = true)) ∧
   (dir.length * 40 ≤ 140737488351232 ∧ ∀ x ∈ dir,x.f0.size ≤ 140737488351232 ∧ (Lit.int .i64 x.f1).wf = true ∧ (Lit.int .i64 x.f2).wf = true ∧ (Lit.int .i64 x.f3).wf = true) ∧ (Lit.int .i64 a6).wf = true) :
  ∃ k,laws_FnExactShelfMap.f k l s0 a b c s4 dir a6 = some true:=by
 obtain ⟨⟨⟨q0,-⟩,-,-,-,q4,-⟩,⟨q5,q6⟩,-⟩:=q'
 apply Ev.rounds
 unfold laws_FnExactShelfMap.f
 obtain ⟨r,hr,hb⟩:=laws_szDisk_ev l (by omega) q.2 1048576 (by omega) (by omega);refine Ev.bind hr (Ev.ite (fun _ => Ev.now _) (fun hn => ?_));have hb:=hb hn;obtain ⟨r2,hr2,hb2⟩:=laws_szShelf_ev s0 a b c s4 dir a6 r (by omega) (by omega) (by omega) (by omega) (by omega) (fun x hx => (q6 x hx).1);refine Ev.bind hr2 (Ev.ite (fun _ => Ev.now _) (fun hn2 => ?_));have hb2:=hb2 hn2
 have hl : l.length ≤ 1048576:=by omega
 have h0 : s0.length ≤ 1048576:=by omega
 have h4 : s4.length ≤ 1048576:=by omega
 have h5 : dir.length ≤ 1048576:=by omega
 have hlm : (l.map toFile).length ≤ 1048576:=by simp only [List.length_map];omega
 have hdm : (dir.map toSpot).length ≤ 1048576:=by simp only [List.length_map];omega
 have tl:=laws_toDisk_ev l hl;have ts:=laws_toShelf_ev s0 a b c s4 dir a6 h0 h4 h5;have hs:=spec_ShelfMap_ev (l.map toFile) hlm s0 a b c s4 (dir.map toSpot) a6 hdm;have hi:=impl_ShelfMap_ev (l.map toFile) hlm s0 a b c s4 (dir.map toSpot) a6 hdm
 have hw : (shelfMap (l.map toFile) (dir.map toSpot)).1.length ≤ 1048576:=by
  unfold shelfMap
  split
  ·have:=mapRows_len (l.map toFile) (dir.map toSpot) [];simp only [List.length_nil] at this
   omega
  ·simp
 generalize shelfMap (l.map toFile) (dir.map toSpot) = w at hs hi hw;have e0:=laws_eqDisk_refl (l.map toFile) (by omega);have e1:=laws_eqShelf_refl s0 a b c s4 (dir.map toSpot) a6 (by omega) (by omega) (by omega);have e2:=laws_eqPairS_refl w.1 (by omega);have k0:=laws_markDisk_ev (l.map toFile) 1 (by omega) (by omega) (by omega);have k1:=laws_markShelf_ev s0 a b c s4 (dir.map toSpot) a6 (1 + 2 * ((l.map toFile).length : Int)) (by omega) (by omega);have k2:=laws_markPairS_ev w.1 1 (by omega) (by omega) (by omega);have hh:=laws_heldPairS_ev w.1 1 (by omega) (by omega) (by omega);refine Ev.bind tl (Ev.bind ts (Ev.bind hs (Ev.bind tl (Ev.bind ts (Ev.bind hi (Ev.bind e2 (Ev.pos rfl ?_)))))));refine Ev.step (fun _ => rfl) ?_;simp only [laws_FnExactShelfMap.j0];refine Ev.neg (by simp) (Ev.bind tl (Ev.bind e0 (Ev.pos rfl (Ev.bind ts (Ev.bind e1 (Ev.pos rfl (Ev.bind k0 (Ev.bind k1 (Ev.neg (by dsimp only;omega) (Ev.bind e2 (Ev.pos rfl ?_)))))))))));refine Ev.step (fun _ => rfl) ?_;simp only [laws_FnExactShelfMap.j1];refine Ev.neg (by simp) (Ev.bind k2 (Ev.bind hh (Ev.neg (by omega) (Ev.pos rfl (Ev.bind tl (Ev.bind ts (Ev.bind hi (Ev.bind e2 (Ev.pos rfl ?_)))))))));refine Ev.step (fun _ => rfl) ?_;simp only [laws_FnExactShelfMap.j2];exact Ev.neg (by simp) (Ev.bind hh (Ev.neg (by omega) (Ev.pos rfl (Ev.now _))))
end Go.Proofs.YtbcgnncbiblibaaDoor.Pure
