/- The operations that only read: what each comes to. -/
import Derived.Test.YtmigjpmadhebfaaSl4
import Derived.IntWalk
import Derived.Laws.StructEq
import Derived.Laws.Small
import Derived.Laws.Cells
import Derived.Laws.Slices
import Derived.Laws.Strings
namespace Go.Proofs.Ytmigjpmadhebfaa
open Go

/-- A cell holds v. -/
def cellR (b off : Nat) (v : Value) : Hp → Prop := fun h => ∃ cs T fz, h b = some (.cells cs T fz) ∧ cs[off]? = some v
def cellsR (b off : Nat) (vs : List Value) : Hp → Prop := fun h => ∀ j v, vs[j]? = some v → cellR b (off + j) v h
/-- A map holds these entries. -/
def mapR (b : Nat) (es : Array MapEntry) : Hp → Prop := fun h => ∃ ck, h b = some (.map es ck)
theorem cellR.up {b off : Nat} {v : Value} : Up (cellR b off v) := fun _ _ s ⟨cs, T, fz, e, x⟩ => ⟨cs, T, fz, s _ _ e, x⟩
theorem cellsR.up {b off : Nat} {vs : List Value} : Up (cellsR b off vs) := fun _ _ s H j v e => cellR.up _ _ s (H j v e)
theorem mapR.up {b : Nat} {es : Array MapEntry} : Up (mapR b es) := fun _ _ s ⟨ck, e⟩ => ⟨ck, s _ _ e⟩
theorem cellR.cell {b off : Nat} {v : Value} {w : World} (h : cellR b off v (fun b => w.heap[b]?)) : w.cell? ⟨b, off, none⟩ = some v := by
  obtain ⟨cs, T, fz, e, x⟩ := h
  simp only at e
  simp [World.cell?, e, x]
theorem Addr.add_eq (b off m : Nat) : Addr.add ⟨b, off, none⟩ m = ⟨b, off + m, none⟩ := by
  unfold Addr.add; split
  · rename_i h; simp [h]
  · rfl
theorem cellsR.cell {b off : Nat} {vs : List Value} {w : World} (h : cellsR b off vs (fun b => w.heap[b]?)) : ∀ j v, vs[j]? = some v → w.cell? (Addr.add ⟨b, off, none⟩ j) = some v := by
  intro j v hj
  rw [Addr.add_eq]
  exact (h j v hj).cell

section
variable {W : World} {L : List HProp}
theorem Has.imp {R R' : Hp → Prop} (h : Has W L R) (e : ∀ m, R m → R' m) : Has W L R' := fun w hw => e _ (h w hw)
theorem Has.of_reads {R : Hp → Prop} (h : Reads L R) : Has W L R := fun _ hw => h.sat (M := []) hw
theorem Has.at {i b : Nat} {o : Obj} {R : Hp → Prop} (hi : L[i]? = some (pt b o)) (hR : ∀ h : Hp, h b = some o → R h) : Has W L R := fun w hw => by
  have : pick i L = pt b o :: L.eraseIdx i := by simp [pick, hi]
  exact hR _ (this ▸ hw.perm (pick_perm i L)).get
theorem Has.cell {i b : Nat} {cs : Array Value} {T : TypeId} {fz : Nat × Nat} {off : Nat} {v : Value} (hi : L[i]? = some (pt b (.cells cs T fz))) (hv : cs[off]? = some v) : Has W L (cellR b off v) :=
  Has.at hi fun _ e => ⟨cs, T, fz, e, hv⟩
theorem Has.cells {i b : Nat} {cs : Array Value} {T : TypeId} {fz : Nat × Nat} {off : Nat} {vs : List Value} (hi : L[i]? = some (pt b (.cells cs T fz))) (hv : ∀ j v, vs[j]? = some v → cs[off + j]? = some v) : Has W L (cellsR b off vs) :=
  Has.at hi fun _ e j v h => ⟨cs, T, fz, e, hv j v h⟩
theorem Has.whole {i b : Nat} {vs : List Value} {T : TypeId} {fz : Nat × Nat} (hi : L[i]? = some (pt b (.cells vs.toArray T fz))) : Has W L (cellsR b 0 vs) :=
  Has.cells hi fun j v h => by simpa using h
theorem Has.map {i b : Nat} {es : Array MapEntry} {ck : Nat} (hi : L[i]? = some (pt b (.map es ck))) : Has W L (mapR b es) :=
  Has.at hi fun _ e => ⟨ck, e⟩
end

theorem beqBytes (a b : ByteArray) : (a.toList == b.toList) = decide (a = b) := by
  rw [Bool.eq_iff_iff]
  simp only [beq_iff_eq, decide_eq_true_eq, ByteArray.toList_eq]
  constructor
  · intro h
    cases a with | mk x => cases b with | mk y => exact congrArg ByteArray.mk (Array.ext' h)
  · rintro rfl; rfl
section
variable {P : Program} {l : Env} {ty : TypeId} {v : Value}
theorem RD_move {x : Operand} (hx : ev l x = some v) : RD P l (.move x) ty RU v := fun ρ hρ w _ _ _ _ _ => by simp [execOp, hρ x v hx]
theorem RD_assign {x : Operand} (hx : ev l x = some v) : RD P l (.assign x) ty RU v := fun ρ hρ w _ _ _ _ _ => by simp [execOp, hρ x v hx]
theorem RD_pick {c x y : Operand} {b : Bool} {u : Value} (hc : ev l c = some (.bool b)) (hx : ev l x = some v) (hy : ev l y = some u) : RD P l (.pick c x y) ty RU (if b then v else u) :=
  fun ρ hρ w _ _ _ _ _ => by simp [execOp, hρ c _ hc, hρ x v hx, hρ y u hy, asBool]
theorem RD_pick_t {c x y : Operand} {b : Bool} (hc : ev l c = some (.bool b)) (e : b = true) (hx : ev l x = some v) : RD P l (.pick c x y) ty RU v :=
  fun ρ hρ w _ _ _ _ _ => by simp [execOp, hρ c _ hc, hρ x v hx, asBool, e]
theorem RD_pick_f {c x y : Operand} {b : Bool} (hc : ev l c = some (.bool b)) (e : b = false) (hy : ev l y = some v) : RD P l (.pick c x y) ty RU v :=
  fun ρ hρ w _ _ _ _ _ => by simp [execOp, hρ c _ hc, hρ y v hy, asBool, e]
theorem RD_nilCheck {x : Operand} {a : Addr} (hx : ev l x = some (.pointer (some a))) : RD P l (.nilCheck x) ty RU (.pointer (some a)) := fun ρ hρ w _ _ _ _ _ => by simp [execOp, hρ x _ hx]

theorem RD_fieldAddr {x : Operand} {s i : Nat} {fs : Array Field} {f : Field} {b off m : Nat} (o : Nat) (hs : ∀ w, (underlying s).run P w = .ok (.struct fs) w) (hf : fs[i]? = some f) (ho : Nat.beq f.offset o = true)
    (hz : ∀ w, (sizeOf f.type).run P w = .ok (m + 1) w) (hx : ev l x = some (.pointer (some ⟨b, off, none⟩))) : RD P l (.fieldAddr s x i) ty RU (.pointer (some ⟨b, off + o, none⟩)) := fun ρ hρ w _ _ _ _ _ => by
  rw [← Nat.eq_of_beq_eq_true ho]
  simp [execOp, hρ x _ hx, Instr.fieldAt, hs, hf, Instr.sureAddr, fieldPlace, hz, Addr.add_eq]
theorem RD_fieldAddr0 {x : Operand} {s i : Nat} {fs : Array Field} {f : Field} {b off m : Nat} (hs : ∀ w, (underlying s).run P w = .ok (.struct fs) w) (hf : fs[i]? = some f) (ho : Nat.beq f.offset 0 = true)
    (hz : ∀ w, (sizeOf f.type).run P w = .ok (m + 1) w) (hx : ev l x = some (.pointer (some ⟨b, off, none⟩))) : RD P l (.fieldAddr s x i) ty RU (.pointer (some ⟨b, off, none⟩)) :=
  RD_fieldAddr 0 hs hf ho hz hx
theorem RD_load {x : Operand} {t b off : Nat} (hg : ∀ w, (isAgg t).run P w = .ok false w) (hx : ev l x = some (.pointer (some ⟨b, off, none⟩))) : RD P l (.load t x) ty (cellR b off v) v := fun ρ hρ w hR _ _ _ _ => by
  simp [execOp, hρ x _ hx, Instr.loadAt, Instr.sureAddr, loadVar, hg, hR.cell]
theorem RD_loadA {x : Operand} {t b off : Nat} {vs : List Value} {m : Nat} (hg : ∀ w, (isAgg t).run P w = .ok true w) (hs : ∀ w, (sizeOf t).run P w = .ok m w) (hm : vs.length = m)
    (hx : ev l x = some (.pointer (some ⟨b, off, none⟩))) : RD P l (.load t x) ty (cellsR b off vs) (.agg vs.toArray) := fun ρ hρ w hR _ _ _ _ => by
  subst hm
  simp [execOp, hρ x _ hx, Instr.loadAt, Instr.sureAddr, loadVar, hg, hs, run_loadCells_list w _ _ hR.cell]
theorem RD_field {x : Operand} {t i : Nat} {fs : Array Field} {f : Field} {cs : Array Value} (hs : ∀ w, (underlying t).run P w = .ok (.struct fs) w) (hf : fs[i]? = some f)
    (hg : ∀ w, (isAgg f.type).run P w = .ok false w) (hx : ev l x = some (.agg cs)) (hv : cs[f.offset]? = some v) : RD P l (.field t x i) ty RU v := fun ρ hρ w _ _ _ _ _ => by
  simp [execOp, hρ x _ hx, Instr.field, hs, hf, asAgg, part, hg, hv]
theorem RD_fieldA {x : Operand} {t i m : Nat} {fs : Array Field} {f : Field} {cs : Array Value} (hs : ∀ w, (underlying t).run P w = .ok (.struct fs) w) (hf : fs[i]? = some f)
    (hg : ∀ w, (isAgg f.type).run P w = .ok true w) (hz : ∀ w, (sizeOf f.type).run P w = .ok m w) (hx : ev l x = some (.agg cs)) {us : Array Value} (hv : cs.extract f.offset (f.offset + m) = us) : RD P l (.field t x i) ty RU (.agg us) := fun ρ hρ w _ _ _ _ _ => by
  simp [execOp, hρ x _ hx, Instr.field, hs, hf, asAgg, part, hg, hz, hv]
theorem RD_extract {x : Operand} {i : Nat} {vs : Array Value} (hx : ev l x = some (.tuple vs)) (hv : vs[i]? = some v) : RD P l (.extract x i) ty RU v := fun ρ hρ w _ _ _ _ _ => by
  simp [execOp, hρ x _ hx, Instr.extract, hv]
theorem RD_indexAddr {x y : Operand} {t e b off n c m : Nat} {k : IntKind} {i : Int} (hs : ∀ w, (underlying t).run P w = .ok (.slice e) w) (hz : ∀ w, (sizeOf e).run P w = .ok m w)
    (hx : ev l x = some (.slice (some ⟨b, off, none⟩) n c)) (hy : ev l y = some (.int k i)) (h0 : 0 ≤ i) (h1 : i < n) : RD P l (.indexAddr t x y) ty RU (.pointer (some ⟨b, off + i.toNat * m, none⟩)) := fun ρ hρ w _ _ _ _ _ => by
  simp [execOp, hρ x _ hx, hρ y _ hy, Instr.indexAt, asIntOf, hs, hz, h0, h1, Addr.add_eq]
theorem RD_indexAddrA {x y : Operand} {t e b off n m : Nat} {k : IntKind} {i : Int} (hs : ∀ w, (underlying t).run P w = .ok (.array n e) w) (hz : ∀ w, (sizeOf e).run P w = .ok m w)
    (hx : ev l x = some (.pointer (some ⟨b, off, none⟩))) (hy : ev l y = some (.int k i)) (h0 : 0 ≤ i) (h1 : i < n) : RD P l (.indexAddr t x y) ty RU (.pointer (some ⟨b, off + i.toNat * m, none⟩)) := fun ρ hρ w _ _ _ _ _ => by
  simp [execOp, hρ x _ hx, hρ y _ hy, Instr.indexAt, asIntOf, hs, hz, h0, h1, Addr.add_eq, Instr.sureAddr]

/-! Integers -/
theorem RD_add {x y : Operand} {t yt : TypeId} {k : IntKind} {a b : Int} (hx : ev l x = some (.int k a)) (hy : ev l y = some (.int k b)) : RD P l (.binOp .add t x y yt) ty RU (.int k (k.wrap (a + b))) := fun ρ hρ w _ _ _ _ _ => by
  simp [execOp, hρ x _ hx, hρ y _ hy, eqGuard, binOp, Op.intArith]
theorem RD_sub {x y : Operand} {t yt : TypeId} {k : IntKind} {a b : Int} (hx : ev l x = some (.int k a)) (hy : ev l y = some (.int k b)) : RD P l (.binOp .sub t x y yt) ty RU (.int k (k.wrap (a - b))) := fun ρ hρ w _ _ _ _ _ => by
  simp [execOp, hρ x _ hx, hρ y _ hy, eqGuard, binOp, Op.intArith]
theorem RD_mul {x y : Operand} {t yt : TypeId} {k : IntKind} {a b : Int} (hx : ev l x = some (.int k a)) (hy : ev l y = some (.int k b)) : RD P l (.binOp .mul t x y yt) ty RU (.int k (k.wrap (a * b))) := fun ρ hρ w _ _ _ _ _ => by
  simp [execOp, hρ x _ hx, hρ y _ hy, eqGuard, binOp, Op.intArith]
theorem RD_addi {x y : Operand} {t yt : TypeId} {a b : Int} (hx : ev l x = some (.int .i64 a)) (hy : ev l y = some (.int .i64 b)) (h1 : -9223372036854775808 ≤ a + b) (h2 : a + b ≤ 9223372036854775807) :
    RD P l (.binOp .add t x y yt) ty RU (.int .i64 (a + b)) := by have := RD_add (P := P) (ty := ty) (t := t) (yt := yt) hx hy; rwa [IntWalk.i64_in _ ⟨h1, h2⟩] at this
theorem RD_subi {x y : Operand} {t yt : TypeId} {a b : Int} (hx : ev l x = some (.int .i64 a)) (hy : ev l y = some (.int .i64 b)) (h1 : -9223372036854775808 ≤ a - b) (h2 : a - b ≤ 9223372036854775807) :
    RD P l (.binOp .sub t x y yt) ty RU (.int .i64 (a - b)) := by have := RD_sub (P := P) (ty := ty) (t := t) (yt := yt) hx hy; rwa [IntWalk.i64_in _ ⟨h1, h2⟩] at this
theorem RD_muli {x y : Operand} {t yt : TypeId} {a b : Int} (hx : ev l x = some (.int .i64 a)) (hy : ev l y = some (.int .i64 b)) (h1 : -9223372036854775808 ≤ a * b) (h2 : a * b ≤ 9223372036854775807) :
    RD P l (.binOp .mul t x y yt) ty RU (.int .i64 (a * b)) := by have := RD_mul (P := P) (ty := ty) (t := t) (yt := yt) hx hy; rwa [IntWalk.i64_in _ ⟨h1, h2⟩] at this
/-- Go's & | ^ on a kind. -/
def band (k : IntKind) (a b : Int) : Int := k.wrap (BitVec.ofInt k.bits a &&& BitVec.ofInt k.bits b).toNat
def bor (k : IntKind) (a b : Int) : Int := k.wrap (BitVec.ofInt k.bits a ||| BitVec.ofInt k.bits b).toNat
def bxor (k : IntKind) (a b : Int) : Int := k.wrap (BitVec.ofInt k.bits a ^^^ BitVec.ofInt k.bits b).toNat
theorem RD_and {x y : Operand} {t yt : TypeId} {k : IntKind} {a b : Int} (hx : ev l x = some (.int k a)) (hy : ev l y = some (.int k b)) : RD P l (.binOp .and t x y yt) ty RU (.int k (band k a b)) := fun ρ hρ w _ _ _ _ _ => by
  simp [execOp, hρ x _ hx, hρ y _ hy, eqGuard, binOp, Op.intBits, band]
theorem RD_or {x y : Operand} {t yt : TypeId} {k : IntKind} {a b : Int} (hx : ev l x = some (.int k a)) (hy : ev l y = some (.int k b)) : RD P l (.binOp .or t x y yt) ty RU (.int k (bor k a b)) := fun ρ hρ w _ _ _ _ _ => by
  simp [execOp, hρ x _ hx, hρ y _ hy, eqGuard, binOp, Op.intBits, bor]
theorem RD_xor {x y : Operand} {t yt : TypeId} {k : IntKind} {a b : Int} (hx : ev l x = some (.int k a)) (hy : ev l y = some (.int k b)) : RD P l (.binOp .xor t x y yt) ty RU (.int k (bxor k a b)) := fun ρ hρ w _ _ _ _ _ => by
  simp [execOp, hρ x _ hx, hρ y _ hy, eqGuard, binOp, Op.intBits, bxor]
theorem RD_rem {x y : Operand} {t yt : TypeId} {k : IntKind} {a b : Int} (hx : ev l x = some (.int k a)) (hy : ev l y = some (.int k b)) (h0 : b ≠ 0) : RD P l (.binOp .rem t x y yt) ty RU (.int k (a.tmod b)) := fun ρ hρ w _ _ _ _ _ => by
  simp [execOp, hρ x _ hx, hρ y _ hy, eqGuard, binOp, Op.intDiv, h0]
theorem RD_remi {x y : Operand} {t yt : TypeId} {k : IntKind} {a b : Int} (hx : ev l x = some (.int k a)) (hy : ev l y = some (.int k b)) (ha : 0 ≤ a) (h0 : 0 < b) : RD P l (.binOp .rem t x y yt) ty RU (.int k (a % b)) := by
  have := RD_rem (P := P) (ty := ty) (t := t) (yt := yt) hx hy (by omega); rwa [Int.tmod_eq_emod_of_nonneg ha] at this
theorem RD_quo {x y : Operand} {t yt : TypeId} {k : IntKind} {a b : Int} (hx : ev l x = some (.int k a)) (hy : ev l y = some (.int k b)) (h0 : b ≠ 0) : RD P l (.binOp .quo t x y yt) ty RU (.int k (k.wrap (a.tdiv b))) := fun ρ hρ w _ _ _ _ _ => by
  simp [execOp, hρ x _ hx, hρ y _ hy, eqGuard, binOp, Op.intDiv, h0]
theorem RD_shl {x y : Operand} {t yt : TypeId} {k yk : IntKind} {a b : Int} (hx : ev l x = some (.int k a)) (hy : ev l y = some (.int yk b)) (h0 : 0 ≤ b) : RD P l (.binOp .shl t x y yt) ty RU (.int k (k.wrap (a * 2 ^ (min b.toNat k.bits)))) := fun ρ hρ w _ _ _ _ _ => by
  simp [execOp, hρ x _ hx, hρ y _ hy, eqGuard, binOp, Op.shift, show ¬ b < 0 from by omega]
theorem RD_shr {x y : Operand} {t yt : TypeId} {k yk : IntKind} {a b : Int} (hx : ev l x = some (.int k a)) (hy : ev l y = some (.int yk b)) (h0 : 0 ≤ b) : RD P l (.binOp .shr t x y yt) ty RU (.int k (a.fdiv (2 ^ (min b.toNat k.bits)))) := fun ρ hρ w _ _ _ _ _ => by
  simp [execOp, hρ x _ hx, hρ y _ hy, eqGuard, binOp, Op.shift, show ¬ b < 0 from by omega]
theorem RD_lss {x y : Operand} {t yt : TypeId} {k : IntKind} {a b : Int} (hx : ev l x = some (.int k a)) (hy : ev l y = some (.int k b)) : RD P l (.binOp .lss t x y yt) ty RU (.bool (decide (a < b))) := fun ρ hρ w _ _ _ _ _ => by
  simp [execOp, hρ x _ hx, hρ y _ hy, eqGuard, binOp, Op.intCmp]
theorem RD_leq {x y : Operand} {t yt : TypeId} {k : IntKind} {a b : Int} (hx : ev l x = some (.int k a)) (hy : ev l y = some (.int k b)) : RD P l (.binOp .leq t x y yt) ty RU (.bool (decide (a ≤ b))) := fun ρ hρ w _ _ _ _ _ => by
  simp [execOp, hρ x _ hx, hρ y _ hy, eqGuard, binOp, Op.intCmp]
theorem RD_gtr {x y : Operand} {t yt : TypeId} {k : IntKind} {a b : Int} (hx : ev l x = some (.int k a)) (hy : ev l y = some (.int k b)) : RD P l (.binOp .gtr t x y yt) ty RU (.bool (decide (b < a))) := fun ρ hρ w _ _ _ _ _ => by
  simp [execOp, hρ x _ hx, hρ y _ hy, eqGuard, binOp, Op.intCmp]
theorem RD_geq {x y : Operand} {t yt : TypeId} {k : IntKind} {a b : Int} (hx : ev l x = some (.int k a)) (hy : ev l y = some (.int k b)) : RD P l (.binOp .geq t x y yt) ty RU (.bool (decide (b ≤ a))) := fun ρ hρ w _ _ _ _ _ => by
  simp [execOp, hρ x _ hx, hρ y _ hy, eqGuard, binOp, Op.intCmp]
theorem RD_eql {x y : Operand} {t yt : TypeId} {k : IntKind} {a b : Int} (hx : ev l x = some (.int k a)) (hy : ev l y = some (.int k b)) : RD P l (.binOp .eql t x y yt) ty RU (.bool (decide (a = b))) := fun ρ hρ w _ _ _ _ _ => by
  simp [execOp, hρ x _ hx, hρ y _ hy, eqGuard, binOp, Op.intCmp]; rfl
theorem RD_neq {x y : Operand} {t yt : TypeId} {k : IntKind} {a b : Int} (hx : ev l x = some (.int k a)) (hy : ev l y = some (.int k b)) : RD P l (.binOp .neq t x y yt) ty RU (.bool (!decide (a = b))) := fun ρ hρ w _ _ _ _ _ => by
  simp [execOp, hρ x _ hx, hρ y _ hy, eqGuard, binOp, Op.intCmp]; rfl
theorem RD_eqlB {x y : Operand} {t yt : TypeId} {a b : Bool} (ht : P.underlying t = some .bool) (hx : ev l x = some (.bool a)) (hy : ev l y = some (.bool b)) : RD P l (.binOp .eql t x y yt) ty RU (.bool (a == b)) := fun ρ hρ w _ _ _ _ _ => by
  simp [execOp, hρ x _ hx, hρ y _ hy, eqGuard, run_eql_bool _ _ _ _ ht]
theorem RD_neqB {x y : Operand} {t yt : TypeId} {a b : Bool} (ht : P.underlying t = some .bool) (hx : ev l x = some (.bool a)) (hy : ev l y = some (.bool b)) : RD P l (.binOp .neq t x y yt) ty RU (.bool (!(a == b))) := fun ρ hρ w _ _ _ _ _ => by
  simp [execOp, hρ x _ hx, hρ y _ hy, eqGuard, run_neq_bool _ _ _ _ ht]
theorem RD_eqlS {x y : Operand} {t yt : TypeId} {a b : ByteArray} (hx : ev l x = some (.string a)) (hy : ev l y = some (.string b)) : RD P l (.binOp .eql t x y yt) ty RU (.bool (decide (a = b))) := fun ρ hρ w _ _ _ _ _ => by
  have := beqBytes a b
  simp [execOp, hρ x _ hx, hρ y _ hy, eqGuard, binOp, Op.stringOp, this]
theorem RD_neqS {x y : Operand} {t yt : TypeId} {a b : ByteArray} (hx : ev l x = some (.string a)) (hy : ev l y = some (.string b)) : RD P l (.binOp .neq t x y yt) ty RU (.bool (!decide (a = b))) := fun ρ hρ w _ _ _ _ _ => by
  have := beqBytes a b
  simp [execOp, hρ x _ hx, hρ y _ hy, eqGuard, binOp, Op.stringOp, this]
theorem RD_not {x : Operand} {t : TypeId} {a : Bool} (hx : ev l x = some (.bool a)) : RD P l (.unOp .not t x) ty RU (.bool (!a)) := fun ρ hρ w _ _ _ _ _ => by
  simp [execOp, hρ x _ hx, Op.unary]
theorem RD_neg {x : Operand} {t : TypeId} {k : IntKind} {a : Int} (hx : ev l x = some (.int k a)) : RD P l (.unOp .neg t x) ty RU (.int k (k.wrap (0 - a))) := fun ρ hρ w _ _ _ _ _ => by
  simp [execOp, hρ x _ hx, Op.unary, Op.intArith]
theorem RD_convI {x : Operand} {s t : TypeId} {k j : IntKind} {a : Int} {d : TypeDesc} (hs : ∀ w, (underlying s).run P w = .ok d w) (ht : ∀ w, (underlying t).run P w = .ok (.int k) w) (hx : ev l x = some (.int j a)) : RD P l (.convert s t x) ty RU (.int k (k.wrap a)) := fun ρ hρ w _ _ _ _ _ => by
  simp [execOp, hρ x _ hx, convert, hs, ht, Conv.intToInt]
theorem run_equalIn_p (d : Nat) (t e : TypeId) (a : Option Addr) (w : World) (ht : (underlying t).run P w = .ok (.pointer e) w) : (Op.equalIn (d + 1) t (.pointer a) (.pointer none)).run P w = .ok a.isNone w := by
  cases a <;> simp [Op.equalIn, ht]
theorem run_equalIn_m (d : Nat) (t e f : TypeId) (a : Option Nat) (w : World) (ht : (underlying t).run P w = .ok (.map e f) w) : (Op.equalIn (d + 1) t (.map a) (.map none)).run P w = .ok a.isNone w := by
  cases a <;> simp [Op.equalIn, ht]
theorem RD_eqlP {x y : Operand} {t yt e : TypeId} {a : Option Addr} (ht : P.underlying t = some (.pointer e)) (hx : ev l x = some (.pointer a)) (hy : ev l y = some (.pointer none)) : RD P l (.binOp .eql t x y yt) ty RU (.bool a.isNone) := fun ρ hρ w _ _ _ _ _ => by
  have h1 : (underlying t).run P w = .ok (.pointer e) w := by simp [underlying, ht]
  have h2 := run_equalIn_p 9999 t e a w h1
  simp [execOp, hρ x _ hx, hρ y _ hy, eqGuard, binOp, Op.equal, Op.maxDepth, h2]
theorem RD_neqP {x y : Operand} {t yt e : TypeId} {a : Option Addr} (ht : P.underlying t = some (.pointer e)) (hx : ev l x = some (.pointer a)) (hy : ev l y = some (.pointer none)) : RD P l (.binOp .neq t x y yt) ty RU (.bool (!a.isNone)) := fun ρ hρ w _ _ _ _ _ => by
  have h1 : (underlying t).run P w = .ok (.pointer e) w := by simp [underlying, ht]
  have h2 := run_equalIn_p 9999 t e a w h1
  simp [execOp, hρ x _ hx, hρ y _ hy, eqGuard, binOp, Op.equal, Op.maxDepth, h2]
theorem RD_eqlM {x y : Operand} {t yt e f : TypeId} {a : Option Nat} (ht : P.underlying t = some (.map e f)) (hx : ev l x = some (.map a)) (hy : ev l y = some (.map none)) : RD P l (.binOp .eql t x y yt) ty RU (.bool a.isNone) := fun ρ hρ w _ _ _ _ _ => by
  have h1 : (underlying t).run P w = .ok (.map e f) w := by simp [underlying, ht]
  have h2 := run_equalIn_m 9999 t e f a w h1
  simp [execOp, hρ x _ hx, hρ y _ hy, eqGuard, binOp, Op.equal, Op.maxDepth, h2]
theorem RD_len {x : Operand} {t e : TypeId} {a : Option Addr} {n c : Nat} (ht : ∀ w, (underlying t).run P w = .ok (.slice e) w) (hx : ev l x = some (.slice a n c)) : RD P l (.call ⟨.builtin .len, #[x], #[t]⟩) ty RU (.int .i64 n) := fun ρ hρ w _ _ _ _ _ => by
  simp [execOp, resolve, hρ x _ hx, invoke, builtin, Builtin.len_, ht, goInt]
theorem RD_lenS {x : Operand} {t : TypeId} {s : ByteArray} (ht : ∀ w, (underlying t).run P w = .ok .string w) (hx : ev l x = some (.string s)) : RD P l (.call ⟨.builtin .len, #[x], #[t]⟩) ty RU (.int .i64 s.size) := fun ρ hρ w _ _ _ _ _ => by
  simp [execOp, resolve, hρ x _ hx, invoke, builtin, Builtin.len_, ht, goInt]
theorem RD_min {x y : Operand} {ts : Array TypeId} {k k' : IntKind} {a b : Int} (hx : ev l x = some (.int k a)) (hy : ev l y = some (.int k' b)) : RD P l (.call ⟨.builtin .min, #[x, y], ts⟩) ty RU (.int k (if b < a then b else a)) := fun ρ hρ w _ _ _ _ _ => by
  simp [execOp, resolve, hρ x _ hx, hρ y _ hy, invoke, builtin, run_min_int2]
theorem RD_max {x y : Operand} {ts : Array TypeId} {k k' : IntKind} {a b : Int} (hx : ev l x = some (.int k a)) (hy : ev l y = some (.int k' b)) : RD P l (.call ⟨.builtin .max, #[x, y], ts⟩) ty RU (.int k (if b > a then b else a)) := fun ρ hρ w _ _ _ _ _ => by
  simp [execOp, resolve, hρ x _ hx, hρ y _ hy, invoke, builtin, run_max_int2]
theorem RD_cap {x : Operand} {t e : TypeId} {a : Option Addr} {n c : Nat} (ht : ∀ w, (underlying t).run P w = .ok (.slice e) w) (hx : ev l x = some (.slice a n c)) : RD P l (.call ⟨.builtin .cap, #[x], #[t]⟩) ty RU (.int .i64 c) := fun ρ hρ w _ _ _ _ _ => by
  simp [execOp, resolve, hρ x _ hx, invoke, builtin, Builtin.cap_, ht, goInt]
/-- Slicing: any bounds that lie within. -/
def loOf : Option Operand → Env → Option Int
  | none, _ => some 0
  | some x, l => match ev l x with | some (.int _ i) => some i | _ => none
end
end Go.Proofs.Ytmigjpmadhebfaa
