/- Several orders that meet again: what stands behind them is walked once. And rules on turned bytes. -/
import Derived.Test.YtmhldhlldlmdgaaSl12
namespace Go.Proofs.Ytmhldhlldlmdgaa
open Go
section
variable {W : World} {P : Program} {n : Nat} {k : Kont} {l : Env} {L : List HProp} {ops : Array Oper} {r : Ord} {Ts0 : Facts}
/-- Blocks L let every fact be read. -/
def HasAll (W : World) (L : List HProp) : Facts → Prop
  | [] => True
  | (_, T) :: r => Has W L T ∧ HasAll W L r
theorem HasAll.nil : HasAll W L [] := trivial
theorem HasAll.cons {q : Nat} {T : Hp → Prop} {r : Facts} (h : Has W L T) (k : HasAll W L r) : HasAll W L ((q, T) :: r) := ⟨h, k⟩
theorem Keeps.all {j : Nat} : ∀ {Ts : Facts}, HasAll W L Ts → Keeps W ops j L Ts
  | [], _ => trivial
  | (_, _) :: _, h => Keeps.h h.1 (Keeps.all h.2)
theorem SQ_join {X : Type} (rest : Ord) (d : List Bool) (m0 : Nat) (hck : chkOrd ops rest d.toArray m0 = true) (news : X → Env) (I K : X → List HProp)
    (h1 : ∀ x Ts, HasAll W (K x) Ts → SQ W P n ops rest Ts k (news x ++ l) (I x))
    (h2 : (∀ x Ts l' L', EnvLe (news x ++ l) l' → Lands L' (I x) → HasAll W (K x) Ts → SQ W P n ops (.goto d m0) Ts k l' L') → SQ W P n ops r Ts0 k l L) : SQ W P n ops r Ts0 k l L :=
  h2 fun x Ts l' L' he hL hT => by
    intro hs listed fuel hc
    simp only [chkOrd, Bool.and_eq_true, beq_iff_eq] at hc
    obtain rfl : listed = d.toArray := by rw [← hc.1]
    exact (((h1 x Ts hT).le he).lands hL) hs _ fuel (chkOrd_mono _ _ _ _ (Nat.le_of_ble_eq_true hc.2) hck)
end
/-- A literal, as a row of one's own. -/
theorem lit_row {E z b : Nat} (n : Nat) {cs : List Value} {R : List HProp} (h : cs.length = n * z) : Lands (pt b (.cells cs.toArray E) :: R) (rowP E z (some ⟨b, 0, none⟩) n n cs :: R) := by
  rintro m ⟨m1, m2, dj, e, H, r⟩
  refine ⟨m1, m2, dj, e, .inr ⟨b, 0, cs.toArray, (0, 0), rfl, H, h, Nat.le_refl _, ?_, .inl rfl, fun j v hj => ?_⟩, r⟩
  · simp [h]
  · simpa using hj
theorem RD_b2sc {P : Program} {l : Env} {ty : TypeId} {x : Operand} {t s e n c : Nat} {a : Option Addr} (bs : List UInt8) {cs : List Value} (hcs : cs = bs.map byteV) (ht : P.underlying t = some (.slice e)) (hs : P.underlying s = some .string) (he : P.underlying e = some (.int .u8))
    (hx : ev l x = some (.slice a n c)) (hn : bs.length = n) : RD P l (.convert t s x) ty (rowR a cs) (.string (bstr bs)) := by
  subst hcs
  exact RD_b2s ht hs he hx hn
/-- A byte against a byte. -/
theorem ofInt_byte (x : UInt8) : (BitVec.ofInt 8 (x.toNat : Int)).toNat = x.toNat := by
  have := x.toNat_lt
  simp
theorem xor_byte (x y : UInt8) : bxor .u8 (x.toNat : Int) (y.toNat : Int) = ((x ^^^ y).toNat : Int) := by
  have h : bxor .u8 (x.toNat : Int) (y.toNat : Int) = IntKind.u8.wrap ((x ^^^ y).toNat : Int) := by
    show IntKind.u8.wrap ((BitVec.ofInt 8 (x.toNat : Int) ^^^ BitVec.ofInt 8 (y.toNat : Int)).toNat : Int) = _
    rw [BitVec.toNat_xor, ofInt_byte, ofInt_byte, UInt8.toNat_xor]
  have := (x ^^^ y).toNat_lt
  rw [h, IntKind.wrap_u8]
  omega
theorem RD_xor8 {P : Program} {l : Env} {ty : TypeId} {a b : Operand} {t yt : TypeId} {x y : UInt8} (ha : ev l a = some (byteV x)) (hb : ev l b = some (byteV y)) : RD P l (.binOp .xor t a b yt) ty RU (byteV (x ^^^ y)) := by
  have := RD_xor (P := P) (ty := ty) (t := t) (yt := yt) ha hb
  rwa [xor_byte] at this
theorem byteV_inj {x y : UInt8} : byteV x = byteV y ↔ x = y := by
  constructor
  · intro h
    simp only [byteV, Value.int.injEq, true_and] at h
    exact UInt8.toNat_inj.1 (by omega)
  · rintro rfl; rfl
theorem RD_eqlB8 {P : Program} {l : Env} {ty : TypeId} {a b : Operand} {t yt : TypeId} {x y : UInt8} (ha : ev l a = some (byteV x)) (hb : ev l b = some (byteV y)) : RD P l (.binOp .eql t a b yt) ty RU (.bool (decide (x = y))) := by
  have := RD_eql (P := P) (ty := ty) (t := t) (yt := yt) ha hb
  have e : decide ((x.toNat : Int) = (y.toNat : Int)) = decide (x = y) := by
    have : ((x.toNat : Int) = (y.toNat : Int)) ↔ x = y := by rw [← UInt8.toNat_inj]; omega
    simp [this]
  rwa [e] at this
end Go.Proofs.Ytmhldhlldlmdgaa
