/- Places in a row, whatever stands there. -/
import Derived.Test.YtmigjpmadhebfaaSl15
namespace Go.Proofs.Ytmigjpmadhebfaa
open Go Go.Proofs
section
variable {W : World} {P : Program} {L : List HProp} {l : Env} {ty : TypeId}
def rowS (a : Option Addr) : Hp → Prop := fun _ => ∃ b off, a = some (⟨b, off, none⟩ : Addr)
theorem Has.rs {a : Option Addr} {cs : List Value} [h : HasRow L a cs] (hp : 0 < cs.length) : Has W L (rowS a) := fun w hw => by
  have hR : rowR a cs (fun b => w.heap[b]?) := (Has.ro (W := W) (L := L)) w hw
  obtain ⟨b, off, e, _⟩ := hR.some hp
  exact ⟨b, off, e⟩
theorem RD_ixE {x y : Operand} {t e n c m : Nat} {k : IntKind} {i : Int} {a : Option Addr} (hs : ∀ w, (underlying t).run P w = .ok (.slice e) w) (hz : ∀ w, (sizeOf e).run P w = .ok (m + 1) w)
    (hx : ev l x = some (.slice a n c)) (hy : ev l y = some (.int k i)) (h0 : 0 ≤ i) (h1 : i < n) :
    RD P l (.indexAddr t x y) ty (rowS a) (.pointer (some (elA a (i.toNat * (m + 1))))) := fun ρ hρ w hR _ _ _ _ => by
  obtain ⟨b, off, rfl⟩ := hR
  simp [execOp, hρ x _ hx, hρ y _ hy, Instr.indexAt, asIntOf, hs, hz, h0, h1, Addr.add_eq, elA]
end
end Go.Proofs.Ytmigjpmadhebfaa
