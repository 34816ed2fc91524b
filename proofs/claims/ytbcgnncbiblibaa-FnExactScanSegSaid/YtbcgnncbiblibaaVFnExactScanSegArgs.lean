/- The declarations of the shared text 'Args' that this claim needs, as the kit's print or this repo's generator wrote them; comments are taken out. -/
import Derived.ProofKit
import Derived.SizedLaws
import Derived.ChangeArms
import Derived.DataReads
import Derived.Deep.Slices
import Derived.Test.YtbcgnncbiblibaaVFnExactScanSegWWords
namespace Go.Proofs.Ytbcgnncbiblibaa.Args
open Go.Proofs.YtbcgnncbiblibaaW.PrintWords
def Opens (P : Program) (t : TypeId) {α : Type} (d : Kd α) (Q : α → Prop) : Prop :=
 ∀ {H : Type} (enc : TypeId × Value → H) (W : World) (fuel : Nat) (cs : List Value) (x : DataW H × List MemPlace),
  DataW.trod enc P W 0 (fun _ => true) true fuel t cs = some x → (∀ n ∈ x.1.weights P t,n ≤ reachBytes) → ∃ a,d.K W a cs ∧ Q a
section
variable {P : Program} {t e : TypeId}
theorem opens_int {k : IntKind} (hu : P.underlying t = some (.int k)) : Opens P t (Kd.int k) (fun n => (Lit.int k n).wf = true) := by
 intro H enc W fuel cs x h _;obtain ⟨n,rfl,rfl,hn⟩:=DataW.trod_int hu h;exact ⟨n,rfl,hn⟩
theorem opens_string (hu : P.underlying t = some .string) : Opens P t Kd.string (fun s => s.size ≤ 140737488351232) := by
 intro H enc W fuel cs x h hw;obtain ⟨s,rfl,rfl,hs⟩:=DataW.trod_string hu h;refine ⟨s,rfl,?_⟩;have:=hw s.data.toList.length (by simp [DataW.weights]);rw [Array.length_toList] at this;exact this
theorem Opens.mono {α : Type} {d : Kd α} {Q Q' : α → Prop} (h : Opens P t d Q) (hq : ∀ a, Q a → Q' a) : Opens P t d Q' := by
 intro H enc W fuel cs x hx hw;obtain ⟨a,ha,h1⟩:=h enc W fuel cs x hx hw;exact ⟨a,ha,hq a h1⟩
end
end Go.Proofs.Ytbcgnncbiblibaa.Args
