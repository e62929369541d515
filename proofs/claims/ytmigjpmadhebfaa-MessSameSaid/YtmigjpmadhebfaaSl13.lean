/- Several orders that meet again: what stands behind them is walked once. And rules on turned bytes. -/
import Derived.Test.YtmigjpmadhebfaaSl12
namespace Go.Proofs.Ytmigjpmadhebfaa
open Go
section
variable {W : World} {P : Program} {n : Nat} {k : Kont} {l : Env} {L : List HProp} {ops : Array Oper} {r : Ord} {Ts0 : Facts}
/-- Blocks L let every fact be read. -/
def HasAll (W : World) (L : List HProp) : Facts → Prop
  | [] => True
  | (_, T) :: r => Has W L T ∧ HasAll W L r
theorem HasAll.nil : HasAll W L [] := trivial
theorem HasAll.cons {q : Nat} {T : Hp → Prop} {r : Facts} (h : Has W L T) (k : HasAll W L r) : HasAll W L ((q, T) :: r) := ⟨h, k⟩
theorem Keeps.all {j : Nat} : ∀ {Ts : Facts}, HasAll W L Ts → Keeps W ops j L Ts
  | [], _ => trivial
  | (_, _) :: _, h => Keeps.h h.1 (Keeps.all h.2)
/-- Ways that meet again behind two, three, four codes. -/
theorem SC_join2 {X : Type} {c c2 : Code} (env : X → Env) (I : X → List HProp) (h1 : ∀ x, SN W P n k (env x) (I x))
    (h2 : (∀ x l' L', EnvLe (env x) l' → Lands L' (I x) → SN W P n k l' L') → SC W P n c (.seq c2 k) l L) : SC W P n c (.seq c2 k) l L := h2 fun x _ _ he hL => ((h1 x).le he).lands hL
theorem SC_join3 {X : Type} {c c2 c3 : Code} (env : X → Env) (I : X → List HProp) (h1 : ∀ x, SN W P n k (env x) (I x))
    (h2 : (∀ x l' L', EnvLe (env x) l' → Lands L' (I x) → SN W P n k l' L') → SC W P n c (.seq c2 (.seq c3 k)) l L) : SC W P n c (.seq c2 (.seq c3 k)) l L := h2 fun x _ _ he hL => ((h1 x).le he).lands hL
theorem SC_join4 {X : Type} {c c2 c3 c4 : Code} (env : X → Env) (I : X → List HProp) (h1 : ∀ x, SN W P n k (env x) (I x))
    (h2 : (∀ x l' L', EnvLe (env x) l' → Lands L' (I x) → SN W P n k l' L') → SC W P n c (.seq c2 (.seq c3 (.seq c4 k))) l L) : SC W P n c (.seq c2 (.seq c3 (.seq c4 k))) l L := h2 fun x _ _ he hL => ((h1 x).le he).lands hL
theorem SC_join5 {X : Type} {c c2 c3 c4 c5 : Code} (env : X → Env) (I : X → List HProp) (h1 : ∀ x, SN W P n k (env x) (I x))
    (h2 : (∀ x l' L', EnvLe (env x) l' → Lands L' (I x) → SN W P n k l' L') → SC W P n c (.seq c2 (.seq c3 (.seq c4 (.seq c5 k)))) l L) : SC W P n c (.seq c2 (.seq c3 (.seq c4 (.seq c5 k)))) l L := h2 fun x _ _ he hL => ((h1 x).le he).lands hL
theorem SC_joinS1 {X : Type} {c c2 rest : Code} (env : X → Env) (I : X → List HProp) (h1 : ∀ x, SN W P n (.seq rest k) (env x) (I x))
    (h2 : (∀ x l' L', EnvLe (env x) l' → Lands L' (I x) → SN W P n (.seq rest k) l' L') → SC W P n c (.seq (.seq c2 rest) k) l L) : SC W P n c (.seq (.seq c2 rest) k) l L := h2 fun x _ _ he hL => ((h1 x).le he).lands hL
theorem SC_joinS2 {X : Type} {c c2 c3 rest : Code} (env : X → Env) (I : X → List HProp) (h1 : ∀ x, SN W P n (.seq rest k) (env x) (I x))
    (h2 : (∀ x l' L', EnvLe (env x) l' → Lands L' (I x) → SN W P n (.seq rest k) l' L') → SC W P n c (.seq (.seq c2 (.seq c3 rest)) k) l L) : SC W P n c (.seq (.seq c2 (.seq c3 rest)) k) l L := h2 fun x _ _ he hL => ((h1 x).le he).lands hL
theorem SC_joinS3 {X : Type} {c c2 c3 c4 rest : Code} (env : X → Env) (I : X → List HProp) (h1 : ∀ x, SN W P n (.seq rest k) (env x) (I x))
    (h2 : (∀ x l' L', EnvLe (env x) l' → Lands L' (I x) → SN W P n (.seq rest k) l' L') → SC W P n c (.seq (.seq c2 (.seq c3 (.seq c4 rest))) k) l L) : SC W P n c (.seq (.seq c2 (.seq c3 (.seq c4 rest))) k) l L := h2 fun x _ _ he hL => ((h1 x).le he).lands hL
theorem SC_joinS4 {X : Type} {c c2 c3 c4 c5 rest : Code} (env : X → Env) (I : X → List HProp) (h1 : ∀ x, SN W P n (.seq rest k) (env x) (I x))
    (h2 : (∀ x l' L', EnvLe (env x) l' → Lands L' (I x) → SN W P n (.seq rest k) l' L') → SC W P n c (.seq (.seq c2 (.seq c3 (.seq c4 (.seq c5 rest)))) k) l L) : SC W P n c (.seq (.seq c2 (.seq c3 (.seq c4 (.seq c5 rest)))) k) l L := h2 fun x _ _ he hL => ((h1 x).le he).lands hL
theorem SQ_join {X : Type} (rest : Ord) (d : List Bool) (m0 : Nat) (hck : chkOrd ops rest d.toArray m0 = true) (news : X → Env) (I K : X → List HProp)
    (h1 : ∀ x Ts, HasAll W (K x) Ts → SQ W P n ops rest Ts k (news x ++ l) (I x))
    (h2 : (∀ x Ts l' L', EnvLe (news x ++ l) l' → Lands L' (I x) → HasAll W (K x) Ts → SQ W P n ops (.goto d m0) Ts k l' L') → SQ W P n ops r Ts0 k l L) : SQ W P n ops r Ts0 k l L :=
  h2 fun x Ts l' L' he hL hT => by
    intro hs listed fuel hc
    simp only [chkOrd, Bool.and_eq_true, beq_iff_eq] at hc
    obtain rfl : listed = d.toArray := by rw [← hc.1]
    exact (((h1 x Ts hT).le he).lands hL) hs _ fuel (chkOrd_mono _ _ _ _ (Nat.le_of_ble_eq_true hc.2) hck)
/-- An operation that its guard holds back, where it alone may come. -/
theorem SA_no {op : Op} {ty : TypeId} {pos : String} {after : Array Edge} {i : Nat} {Ts : Facts} {dst : Option Tmp} {j : Nat} {want : Bool} {e : Tmp} {b : Bool} (hi : ops[i]? = some ⟨dst, op, ty, pos, after, some (j, want)⟩) (hj : (ops[j]?).bind (·.dst) = some e) (hb : look l e = some (.bool b)) (eq : b = !want)
    (hd : ∀ d, dst = some d → d < n) (h : SQ W P n ops r Ts k (putE dst undef l) L) : SA W P n ops i r Ts k l L := fun listed fuel hs hc a w ha hw => by
  have hwt : Region.wanted ⟨dst, op, ty, pos, after, some (j, want)⟩ (yielded ops a.tmps) = false := by
    have hy : yielded ops a.tmps j = some b := by unfold yielded; rw [hj]; simp [ha.slot e _ hb]
    simp only [Region.wanted, hy, eq]; cases want <;> simp
  unfold wpOp
  rw [hi]
  simp only [hwt, Bool.false_eq_true, if_false]
  exact ⟨Holds.refl _, h hs _ _ hc _ w (ha.put hd) hw⟩
theorem SQ_no1 {op : Op} {ty : TypeId} {pos : String} {after : Array Edge} {i : Nat} {Ts : Facts} {dst : Option Tmp} {j : Nat} {want : Bool} {e : Tmp} {b : Bool} (hi : ops[i]? = some ⟨dst, op, ty, pos, after, some (j, want)⟩) (hj : (ops[j]?).bind (·.dst) = some e) (hb : look l e = some (.bool b)) (eq : b = !want)
    (hd : ∀ d, dst = some d → d < n) (h : SQ W P n ops r Ts k (putE dst undef l) L) : SQ W P n ops (.cons i false r) Ts k l L := SQ_one (SA_no hi hj hb eq hd h)
end
theorem wanted_undef {n : Nat} {l : Env} {ops : Array Oper} {a : Act} {op : Op} {ty : TypeId} {pos : String} {after : Array Edge} {dst : Option Tmp} {j : Nat} {want : Bool} {e : Tmp} (hj : (ops[j]?).bind (·.dst) = some e) (hb : look l e = some undef) (ha : Agree n l a) :
    Region.wanted ⟨dst, op, ty, pos, after, some (j, want)⟩ (yielded ops a.tmps) = false := by
  have hy : yielded ops a.tmps j = none := by unfold yielded; rw [hj]; simp [ha.slot e _ hb, undef]
  simp [Region.wanted, hy]
/-- A guard that was itself held back. -/
theorem SR_nou {W : World} {P : Program} {n : Nat} {k : Kont} {l : Env} {L : List HProp} {ops : Array Oper} {os : List Oper} {dst : Option Tmp} {op : Op} {ty : TypeId} {pos : String} {after : Array Edge} {j : Nat} {want : Bool} {d : Tmp}
    (hj : (ops[j]?).bind (·.dst) = some d) (hb : look l d = some undef) (hd : ∀ d, dst = some d → d < n)
    (h : SR W P n ops os k (putE dst undef l) L) : SR W P n ops (⟨dst, op, ty, pos, after, some (j, want)⟩ :: os) k l L := by
  intro a w ha hw
  unfold wpList
  rw [if_neg (by rw [wanted_undef hj hb ha]; simp)]
  exact h _ w (ha.put hd) hw
theorem SQ_nou {W : World} {P : Program} {n : Nat} {k : Kont} {l : Env} {L : List HProp} {ops : Array Oper} {r : Ord} {Ts : Facts} {i : Nat} {dst : Option Tmp} {op : Op} {ty : TypeId} {pos : String} {after : Array Edge} {j : Nat} {want : Bool} {e : Tmp}
    (hi : ops[i]? = some ⟨dst, op, ty, pos, after, some (j, want)⟩) (hj : (ops[j]?).bind (·.dst) = some e) (hb : look l e = some undef) (hd : ∀ d, dst = some d → d < n)
    (h : SQ W P n ops r Ts k (putE dst undef l) L) : SQ W P n ops (.cons i true r) Ts k l L :=
  SQ_rdg (R := RU) hi (fun a ha => .inr ⟨wanted_undef hj hb ha, rfl⟩) Has.u hd (h.less fun _ => trivial)
theorem SA_nou {W : World} {P : Program} {n : Nat} {k : Kont} {l : Env} {L : List HProp} {ops : Array Oper} {r : Ord} {Ts : Facts} {i : Nat} {dst : Option Tmp} {op : Op} {ty : TypeId} {pos : String} {after : Array Edge} {j : Nat} {want : Bool} {e : Tmp}
    (hi : ops[i]? = some ⟨dst, op, ty, pos, after, some (j, want)⟩) (hj : (ops[j]?).bind (·.dst) = some e) (hb : look l e = some undef) (hd : ∀ d, dst = some d → d < n)
    (h : SQ W P n ops r Ts k (putE dst undef l) L) : SA W P n ops i r Ts k l L := fun listed fuel hs hc a w ha hw => by
  have hwt := wanted_undef (dst := dst) (op := op) (ty := ty) (pos := pos) (after := after) (want := want) hj hb ha
  unfold wpOp
  rw [hi]
  simp only [hwt, Bool.false_eq_true, if_false]
  exact ⟨Holds.refl _, h hs _ _ hc _ w (ha.put hd) hw⟩
theorem SQ_nou1 {W : World} {P : Program} {n : Nat} {k : Kont} {l : Env} {L : List HProp} {ops : Array Oper} {r : Ord} {Ts : Facts} {i : Nat} {dst : Option Tmp} {op : Op} {ty : TypeId} {pos : String} {after : Array Edge} {j : Nat} {want : Bool} {e : Tmp}
    (hi : ops[i]? = some ⟨dst, op, ty, pos, after, some (j, want)⟩) (hj : (ops[j]?).bind (·.dst) = some e) (hb : look l e = some undef) (hd : ∀ d, dst = some d → d < n)
    (h : SQ W P n ops r Ts k (putE dst undef l) L) : SQ W P n ops (.cons i false r) Ts k l L := SQ_one (SA_nou hi hj hb hd h)
theorem dec_iff {p q : Prop} [Decidable p] [Decidable q] (h : p ↔ q) : decide p = decide q := decide_eq_decide.2 h
/-- The first k of a row. -/
theorem row_take {E z n c : Nat} {a : Option Addr} {cs : List Value} {R : List HProp} (k : Nat) (hk : k ≤ n) : Lands (rowP E z a n c cs :: R) (rowP E z a k c (cs.take (k * z)) :: R) := by
  rintro m ⟨m1, m2, dj, e, H, r⟩
  refine ⟨m1, m2, dj, e, ?_, r⟩
  rcases H with ⟨rfl, rfl, rfl, h⟩ | ⟨b, off, xs, fz, rfl, hp, hl, hnc, hsz, hfz, hc⟩
  · exact .inl ⟨by omega, rfl, by simp, h⟩
  · refine .inr ⟨b, off, xs, fz, rfl, hp, ?_, by omega, hsz, hfz, fun j v hj => hc j v ?_⟩
    · rw [List.length_take, hl, Nat.min_eq_left (Nat.mul_le_mul_right z hk)]
    · rw [List.getElem?_take] at hj
      split at hj
      · exact hj
      · cases hj
/-- A literal, as a row of one's own. -/
theorem lit_row {E z b : Nat} (n : Nat) {cs : List Value} {R : List HProp} (h : cs.length = n * z) : Lands (pt b (.cells cs.toArray E) :: R) (rowP E z (some ⟨b, 0, none⟩) n n cs :: R) := by
  rintro m ⟨m1, m2, dj, e, H, r⟩
  refine ⟨m1, m2, dj, e, .inr ⟨b, 0, cs.toArray, (0, 0), rfl, H, h, Nat.le_refl _, ?_, .inl rfl, fun j v hj => ?_⟩, r⟩
  · simp [h]
  · simpa using hj
theorem RD_b2sc {P : Program} {l : Env} {ty : TypeId} {x : Operand} {t s e n c : Nat} {a : Option Addr} (bs : List UInt8) {cs : List Value} (hcs : cs = bs.map byteV) (ht : P.underlying t = some (.slice e)) (hs : P.underlying s = some .string) (he : P.underlying e = some (.int .u8))
    (hx : ev l x = some (.slice a n c)) (hn : bs.length = n) : RD P l (.convert t s x) ty (rowR a cs) (.string (bstr bs)) := by
  subst hcs
  exact RD_b2s ht hs he hx hn
/-- A byte against a byte. -/
theorem ofInt_byte (x : UInt8) : (BitVec.ofInt 8 (x.toNat : Int)).toNat = x.toNat := by
  have := x.toNat_lt
  simp
theorem xor_byte (x y : UInt8) : bxor .u8 (x.toNat : Int) (y.toNat : Int) = ((x ^^^ y).toNat : Int) := by
  have h : bxor .u8 (x.toNat : Int) (y.toNat : Int) = IntKind.u8.wrap ((x ^^^ y).toNat : Int) := by
    show IntKind.u8.wrap ((BitVec.ofInt 8 (x.toNat : Int) ^^^ BitVec.ofInt 8 (y.toNat : Int)).toNat : Int) = _
    rw [BitVec.toNat_xor, ofInt_byte, ofInt_byte, UInt8.toNat_xor]
  have := (x ^^^ y).toNat_lt
  rw [h, IntKind.wrap_u8]
  omega
theorem RD_xor8 {P : Program} {l : Env} {ty : TypeId} {a b : Operand} {t yt : TypeId} {x y : UInt8} (ha : ev l a = some (byteV x)) (hb : ev l b = some (byteV y)) : RD P l (.binOp .xor t a b yt) ty RU (byteV (x ^^^ y)) := by
  have := RD_xor (P := P) (ty := ty) (t := t) (yt := yt) ha hb
  rwa [xor_byte] at this
theorem byteV_inj {x y : UInt8} : byteV x = byteV y ↔ x = y := by
  constructor
  · intro h
    simp only [byteV, Value.int.injEq, true_and] at h
    exact UInt8.toNat_inj.1 (by omega)
  · rintro rfl; rfl
theorem RD_eqlB8 {P : Program} {l : Env} {ty : TypeId} {a b : Operand} {t yt : TypeId} {x y : UInt8} (ha : ev l a = some (byteV x)) (hb : ev l b = some (byteV y)) : RD P l (.binOp .eql t a b yt) ty RU (.bool (decide (x = y))) := by
  have := RD_eql (P := P) (ty := ty) (t := t) (yt := yt) ha hb
  have e : decide ((x.toNat : Int) = (y.toNat : Int)) = decide (x = y) := by
    have : ((x.toNat : Int) = (y.toNat : Int)) ↔ x = y := by rw [← UInt8.toNat_inj]; omega
    simp [this]
  rwa [e] at this
end Go.Proofs.Ytmigjpmadhebfaa
