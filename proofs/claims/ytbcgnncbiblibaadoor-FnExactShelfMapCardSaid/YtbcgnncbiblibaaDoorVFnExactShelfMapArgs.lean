/- The declarations of the shared text 'Args' that this claim needs, as the kit's print or this repo's generator wrote them; comments are taken out. -/
import Derived.ProofKit
import Derived.SizedLaws
import Derived.ChangeArms
import Derived.DataReads
import Derived.Deep.Slices
import Derived.Test.YtbcgnncbiblibaaDoorVFnExactShelfMapWWords
namespace Go.Proofs.YtbcgnncbiblibaaDoor.Args
open Go.Proofs.YtbcgnncbiblibaaDoorW.PrintWords
def Opens (P : Program) (t : TypeId) {α : Type} (d : Kd α) (Q : α → Prop) : Prop :=
 ∀ {H : Type} (enc : TypeId × Value → H) (W : World) (fuel : Nat) (cs : List Value) (x : DataW H × List MemPlace),
  DataW.trod enc P W 0 (fun _ => true) true fuel t cs = some x → (∀ n ∈ x.1.weights P t,n ≤ reachBytes) → ∃ a,d.K W a cs ∧ Q a
section
variable {P : Program} {t e : TypeId}
theorem opens_int {k : IntKind} (hu : P.underlying t = some (.int k)) : Opens P t (Kd.int k) (fun n => (Lit.int k n).wf = true) := by
 intro H enc W fuel cs x h _;obtain ⟨n,rfl,rfl,hn⟩:=DataW.trod_int hu h;exact ⟨n,rfl,hn⟩
theorem opens_string (hu : P.underlying t = some .string) : Opens P t Kd.string (fun s => s.size ≤ 140737488351232) := by
 intro H enc W fuel cs x h hw;obtain ⟨s,rfl,rfl,hs⟩:=DataW.trod_string hu h;refine ⟨s,rfl,?_⟩;have:=hw s.data.toList.length (by simp [DataW.weights]);rw [Array.length_toList] at this;exact this
theorem weights_all {H : Type} : ∀ (l : List (DataW H)) (d : DataW H), d ∈ l → ∀ n ∈ d.weights P e, n ∈ DataW.weightsAll P e l
 | [],_,hd,_,_ => by cases hd
 | d0 :: l,d,hd,n,hn => by
  rw [DataW.weightsAll,List.mem_append]
  rcases List.mem_cons.1 hd with rfl|hd
  ·exact Or.inl hn
  ·exact Or.inr (weights_all l d hd n hn)
theorem opens_slice {α : Type} {d : Kd α} {Q : α → Prop} {B : Nat} (hu : P.underlying t = some (.slice e)) (hc : P.cellsOf e = d.sz) (hB : P.bytesOf e = B) (h : Opens P e d Q) :
  Opens P t (Kd.slice e d) (fun l => l.length * B ≤ 140737488351232 ∧ ∀ x ∈ l,Q x):=by
 intro H enc W fuel cs x hx hw
 rcases DataW.trod_slice hu hx with ⟨rfl,rfl⟩|⟨a,len,cap,elems,rest,n,rfl,rfl,rfl,_,hl,hm,hel,hat,_,_⟩
 ·exact ⟨[],⟨none,0,rfl,Nat.le_refl _,⟨rfl,by simp,fun h => absurd h (by simp)⟩⟩,by simp,fun x hx => by cases hx⟩
 ·have each : ∀ i,i < len → ∃ y,(∃ c,d.K W y c ∧ c.length = d.sz ∧ ∀ j u,c[j]? = some u → W.cell? (a.add (i * d.sz + j)) = some u) ∧ Q y:=by
   intro i hi;have h1:=hat i hi;rw [List.getElem?_eq_getElem (by omega)] at h1;obtain ⟨c,h2,h3⟩:=Option.bind_eq_some_iff.1 h1;obtain ⟨_,hlen,hcell⟩:=World.cells?_some h2;have hmem : (elems[i]'(by omega)).1 ∈ elems.map (·.1):=List.mem_map_of_mem (List.getElem_mem _)
   obtain ⟨y,hy,hq⟩:=h enc W n c _ h3 (fun m hm => hw m (by
    simp only [DataW.weights,hu,List.mem_cons,List.mem_append]
    exact Or.inr (Or.inl (weights_all _ _ hmem m hm))))
   refine ⟨y,⟨c,hy,by rw [hlen,hc],fun j u hj => ?_⟩,hq⟩
   have hjl : j < c.length:=by
    rcases Nat.lt_or_ge j c.length with h4|h4
    ·exact h4
    ·rw [List.getElem?_eq_none h4] at hj;cases hj
   rw [← hc,← Deep.add_add,hcell j (by omega)];exact hj
  have pick : ∀ m,m ≤ len → ∃ ys : List α,ys.length = m ∧ (∀ y ∈ ys,Q y) ∧ ∀ j p,ys[j]? = some p → ∃ c,c.length = d.sz ∧ d.K W p c ∧ ∀ i u,c[i]? = some u → W.cell? (a.add (j * d.sz + i)) = some u:=by
   intro m
   induction m with
   | zero => exact fun _ => ⟨[],rfl,(fun y hy => by cases hy),(fun j p hp => by simp at hp)⟩
   | succ m ih =>
    intro hm;obtain ⟨ys,hy,hq,hr⟩:=ih (by omega);obtain ⟨y,⟨c,hk,hcl,hcc⟩,hqy⟩:=each m (by omega);refine ⟨ys ++ [y],by simp [hy],fun z hz => ?_,fun j p hp => ?_⟩
    ·rcases List.mem_append.1 hz with hz|hz
     ·exact hq z hz
     ·rw [List.mem_singleton.1 hz];exact hqy
    ·rcases Nat.lt_or_ge j ys.length with h5|h5
     ·rw [List.getElem?_append_left h5] at hp;exact hr j p hp
     ·rw [List.getElem?_append_right h5] at hp
      have hj : j - ys.length = 0:=by
       rcases Nat.eq_zero_or_pos (j - ys.length) with h6|h6
       ·exact h6
       ·rw [List.getElem?_eq_none (by simp;omega)] at hp;cases hp
      rw [hj] at hp;simp only [List.getElem?_cons_zero,Option.some.injEq] at hp;subst hp
      obtain rfl : j = m:=by omega
      exact ⟨c,hcl,hk,hcc⟩
  obtain ⟨ys,hy,hq,hr⟩:=pick len (Nat.le_refl _);refine ⟨ys,⟨some a,cap,by rw [hy],by omega,⟨rfl,by unfold maxLen at hm;omega,fun _ => ⟨a,rfl,hr⟩⟩⟩,?_,hq⟩;have h7:=hw _ (by simp only [DataW.weights,hu];exact List.mem_cons_self);rw [hB,List.length_map] at h7;rw [hy,← hel];exact Nat.le_trans (Nat.mul_le_mul_right _ (Nat.le_add_right _ _)) h7
def OpensFs (P : Program) (fs : List Field) (off : Nat) {α : Type} (d : Kd α) (Q : α → Prop) : Prop :=
 ∀ {H : Type} (enc : TypeId × Value → H) (W : World) (fuel : Nat) (cs : List Value) (xs : List (DataW H × List MemPlace)),
  (∀ (i : Nat) (f : Field),fs[i]? = some f → DataW.trod enc P W 0 (fun _ => true) true fuel f.type ((cs.drop f.offset).take (P.cellsOf f.type)) = xs[i]?) → xs.length = fs.length → cs.length = off + d.sz →
  (∀ n ∈ DataW.weightsEach P (fs.map (·.type)) (xs.map (·.1)),n ≤ reachBytes) → ∃ a,d.K W a (cs.drop off) ∧ Q a
theorem opensFs_one {α : Type} {d : Kd α} {Q : α → Prop} {f : Field} {off : Nat} (hf : f.offset = off) (hs : P.cellsOf f.type = d.sz) (h : Opens P f.type d Q) : OpensFs P [f] off d Q := by
 intro H enc W fuel cs xs hx hl hc hw
 obtain ⟨x,rfl⟩ : ∃ x,xs = [x]:=by
  match xs,hl with
  | [x],_ => exact ⟨x,rfl⟩
 have h0:=hx 0 f rfl;rw [hf,hs,List.take_of_length_le (by rw [List.length_drop];omega)] at h0;exact h enc W fuel _ _ h0 (fun n hn => hw n (by simp [DataW.weightsEach,hn]))
theorem opensFs_cons {α β : Type} {d : Kd α} {d' : Kd β} {Q : α → Prop} {Q' : β → Prop} {f : Field} {fs : List Field} {off : Nat} (hf : f.offset = off) (hs : P.cellsOf f.type = d.sz) (h : Opens P f.type d Q) (h' : OpensFs P fs (off + d.sz) d' Q') :
  OpensFs P (f :: fs) off (Kd.pair d d') (fun x => Q x.1 ∧ Q' x.2):=by
 intro H enc W fuel cs xs hx hl hc hw
 obtain ⟨x,ys,rfl⟩ : ∃ x ys,xs = x :: ys:=by
  match xs,hl with
  | x :: ys,_ => exact ⟨x,ys,rfl⟩
 have h0:=hx 0 f rfl;rw [hf,hs] at h0;have hc : cs.length = off + (d.sz + d'.sz):=hc;obtain ⟨a,ha,hq⟩:=h enc W fuel _ _ h0 (fun n hn => hw n (by simp only [List.map_cons,DataW.weightsEach,List.mem_append];exact Or.inl hn));obtain ⟨b,hb,hq'⟩:=h' enc W fuel cs ys (fun i g hg => hx (i + 1) g hg) (by simpa using hl) (by omega) (fun n hn => hw n (by simp only [List.map_cons,DataW.weightsEach,List.mem_append];exact Or.inr hn));refine ⟨(a,b),⟨(cs.drop off).take d.sz,cs.drop (off + d.sz),?_,ha,hb⟩,hq,hq'⟩;rw [← List.drop_drop,List.take_append_drop]
theorem opens_struct {α : Type} {d : Kd α} {Q : α → Prop} {fs : Array Field} (hu : P.underlying t = some (.struct fs)) (hs : P.cellsOf t = d.sz) (h : OpensFs P fs.toList 0 d Q) : Opens P t d Q := by
 intro H enc W fuel cs x hx hw;obtain ⟨xs,n,_,rfl,hl,hlen,hf⟩:=DataW.trod_struct hu hx;exact h enc W n cs xs (fun i f hi => hf i f (by simpa using hi)) (by simpa using hlen) (by omega) (fun n hn => hw n (by simpa [DataW.weights,hu] using hn))
theorem opens_iso {α β : Type} {d : Kd α} {Q : α → Prop} (g : β → α) (inv : α → β) (hg : ∀ a, g (inv a) = a) (h : Opens P t d Q) : Opens P t (Kd.iso d g) (fun b => Q (g b)) := by
 intro H enc W fuel cs x hx hw;obtain ⟨a,ha,hq⟩:=h enc W fuel cs x hx hw;exact ⟨inv a,by show d.K W (g (inv a)) cs;rw [hg];exact ha,by show Q (g (inv a));rw [hg];exact hq⟩
theorem Opens.mono {α : Type} {d : Kd α} {Q Q' : α → Prop} (h : Opens P t d Q) (hq : ∀ a, Q a → Q' a) : Opens P t d Q' := by
 intro H enc W fuel cs x hx hw;obtain ⟨a,ha,h1⟩:=h enc W fuel cs x hx hw;exact ⟨a,ha,hq a h1⟩
end
theorem agg_of {cs : Array Value} {l : List Value} (h : (Value.agg cs).cells.toList = l) : cs = l.toArray := by
 apply Array.toList_inj.1
 exact h
end Go.Proofs.YtbcgnncbiblibaaDoor.Args
