/- The operations that make or turn memory. -/
import Derived.Test.YtmigjpmadhebfaaSl6
namespace Go.Proofs.Ytmigjpmadhebfaa
open Go

/-- A row of one's own: n elements of z cells each, their cells; the base is whatever it is where there is no room. -/
def rowP (E z : Nat) (a : Option Addr) (n c : Nat) (cs : List Value) : HProp := fun h =>
  (n = 0 ∧ c = 0 ∧ cs = [] ∧ ∀ b, h b = none) ∨
  ∃ b off xs fz, a = some ⟨b, off, none⟩ ∧ pt b (.cells xs E fz) h ∧ cs.length = n * z ∧ n ≤ c ∧ off + c * z ≤ xs.size ∧ (fz = (0, 0) ∨ xs.size ≤ fz.1) ∧ ∀ j v, cs[j]? = some v → xs[off + j]? = some v
/-- These blocks swallow whatever is given up. -/
class Abs (F : List HProp) : Prop where
  h : ∀ (A : HProp) h, Den (A :: F) h → Den F h
def junk : HProp := fun _ => True
instance Abs.junk {F : List HProp} : Abs (junk :: F) := ⟨fun A h ⟨h1, h2, d, e, _, h3, h4, d2, e2, _, f⟩ => by
  subst e2
  obtain ⟨d3, d4⟩ := disj_join.1 d
  refine ⟨join h1 h3, h4, disj_comm (disj_join.2 ⟨disj_comm d4, disj_comm d2⟩), ?_, trivial, f⟩
  rw [e, join_assoc]⟩
instance Abs.cons {A : HProp} {F : List HProp} [h : Abs F] : Abs (A :: F) := ⟨fun B m H => by
  have := Den_swap H
  obtain ⟨h1, h2, d, e, a, r⟩ := this
  exact ⟨h1, h2, d, e, a, h.h B h2 r⟩⟩

section
variable {W : World} {P : Program} {l : Env} {ty : TypeId} {L R F : List HProp} {v : Value}

theorem rowP_nil {E z : Nat} {a : Option Addr} {h : Hp} (H : Den R h) : Den (rowP E z a 0 0 [] :: R) h :=
  ⟨fun _ => none, h, fun b => .inl rfl, by funext b; simp [join], .inl ⟨rfl, rfl, rfl, fun _ => rfl⟩, H⟩
theorem rowP_len {E z n c : Nat} {a : Option Addr} {cs : List Value} {h : Hp} (H : rowP E z a n c cs h) : cs.length = n * z ∧ n ≤ c := by
  rcases H with ⟨rfl, rfl, rfl, _⟩ | ⟨_, _, _, _, _, _, h1, h2, _⟩
  · simp
  · exact ⟨h1, h2⟩
theorem rowP_reads {E z n c : Nat} {a : Option Addr} {cs : List Value} {h : Hp} (H : rowP E z a n c cs h) : rowR a cs h := by
  rcases H with ⟨rfl, rfl, rfl, _⟩ | ⟨b, off, xs, fz, rfl, hp, _, _, _, _, hx⟩
  · exact rowR_nil h
  · exact fun j v e => ⟨xs, E, fz, pt_get hp, hx j v e⟩
theorem Has.row {i E z n c : Nat} {a : Option Addr} {cs : List Value} (hi : L[i]? = some (rowP E z a n c cs)) : Has W L (rowR a cs) := fun w hw => by
  have : pick i L = rowP E z a n c cs :: L.eraseIdx i := by simp [pick, hi]
  have hw := this ▸ hw.perm (pick_perm i L)
  obtain ⟨h1, H, s⟩ := Den_head hw.2.2.2
  exact rowR.up _ _ s (rowP_reads H)
/-- A whole block is a row. -/
theorem rowP_of_pt {b E z n : Nat} {cs : List Value} {h : Hp} (hn : cs.length = n * z) (H : pt b (.cells cs.toArray E (0, 0)) h) : rowP E z (some ⟨b, 0, none⟩) n n cs h :=
  .inr ⟨b, 0, cs.toArray, (0, 0), rfl, H, hn, Nat.le_refl _, by simp [hn], .inl rfl, fun j v e => by simpa using e⟩

theorem OX_box {x : Operand} {t : TypeId} {v : Value} {cs : List Value} (hx : ev l x = some v) (hc : v.cells = cs.toArray) :
    OX W P l L (.box t x) ty (fun u L' => ∃ b, u = .pointer (some ⟨b, 0, none⟩) ∧ L' = pt b (.cells cs.toArray t) :: L) := fun ρ hρ w hw _ _ _ _ =>
  ⟨.value (.pointer (some ⟨w.heap.size, 0, none⟩)), { w with heap := w.heap.push (.cells cs.toArray t) }, _, _, by simp [execOp, hρ x _ hx, Instr.box, newVar, newRow, hc], .inl rfl, ⟨_, rfl, rfl⟩, hw.new _⟩
theorem OX_alloc {t : TypeId} {z : Value} {cs : List Value} (hz : ∀ w, (zeroValue t).run P w = .ok z w) (hc : z.cells = cs.toArray) :
    OX W P l L (.alloc t) ty (fun u L' => ∃ b, u = .pointer (some ⟨b, 0, none⟩) ∧ L' = pt b (.cells cs.toArray t) :: L) := fun ρ hρ w hw _ _ _ _ =>
  ⟨.value (.pointer (some ⟨w.heap.size, 0, none⟩)), { w with heap := w.heap.push (.cells cs.toArray t) }, _, _, by simp [execOp, Instr.alloc, newVar, newRow, hz, hc], .inl rfl, ⟨_, rfl, rfl⟩, hw.new _⟩
theorem OX_makeMap {t : TypeId} : OX W P l L (.makeMap t none) ty (fun u L' => ∃ b, u = .map (some b) ∧ L' = pt b (.map #[] 0) :: L) := fun ρ hρ w hw _ _ _ _ =>
  ⟨.value (.map (some w.heap.size)), { w with heap := w.heap.push (.map #[] 0) }, _, _, by simp [execOp, Instr.makeMap], .inl rfl, ⟨_, rfl, rfl⟩, hw.new _⟩
theorem OX_buildSlice {t e len : Nat} {parts : Array (Nat × Operand)} {ps : List (Nat × Value)} {cs : List Value} {ie : TypeInfo} {z : Value}
    (hu : P.underlying t = some (.slice e)) (hie : P.info? e = some ie) (hz : ie.zero = some z) (hsmall : ¬ len * ie.size > 2 ^ 24) (hpos : ¬ len * ie.size = 0)
    (hp : EvL l parts.toList ps)
    (h : Instr.fill (fun i => some (i * ie.size, ie.size)) ((Array.range (len * ie.size)).map (z.cells[· % z.cells.size]!)) ps = some cs.toArray) :
    OX W P l L (.buildSlice t len parts) ty (fun u L' => ∃ b, u = .slice (some ⟨b, 0, none⟩) len len ∧ L' = pt b (.cells cs.toArray e) :: L) := fun ρ hρ w hw _ _ _ _ => by
  have hm : (parts.map fun p => (p.1, ρ p.2)).toList = ps := by rw [Array.toList_map]; exact hp.eval hρ
  refine ⟨.value (.slice (some ⟨w.heap.size, 0, none⟩) len len), { w with heap := w.heap.push (.cells cs.toArray e) }, _, _, ?_, .inl rfl, ⟨_, rfl, rfl⟩, hw.new _⟩
  have := run_buildSlice (P := P) w t e len (parts.map fun p => (p.1, ρ p.2)) cs.toArray ie z hu hie hz hsmall hpos (by rw [hm]; exact h)
  simp [execOp, this]
/-- A slice literal without elements. -/
theorem OX_buildSlice0 {t e : Nat} {m : Nat} (hu : ∀ w, (underlying t).run P w = .ok (.slice e) w) (hz : ∀ w, (sizeOf e).run P w = .ok m w) :
    OX W P l L (.buildSlice t 0 #[]) ty (fun u L' => ∃ b, u = .slice (some ⟨b, 0, none⟩) 0 0 ∧ L' = pt b (.cells #[] e) :: L) := fun ρ hρ w hw _ _ _ _ =>
  ⟨.value (.slice (some ⟨w.heap.size, 0, none⟩) 0 0), { w with heap := w.heap.push (.cells #[] e) }, _, _, by
    have h0 : Array.map (fun _ => (default : Value)) (Array.range 0) = #[] := by simp
    simp [execOp, Instr.buildSlice, hu, hz, Instr.fill, newRow, h0], .inl rfl, ⟨_, rfl, rfl⟩, hw.new _⟩
theorem RD_build {t : Nat} {parts : Array (Nat × Operand)} {ps : List (Nat × Value)} {cs : Array Value}
    (hp : EvL l parts.toList ps) (h : P.built t ps = some cs) : RD P l (.build t parts) ty RU (.agg cs) := fun ρ hρ w _ _ _ _ _ => by
  have hm : (parts.map fun p => (p.1, ρ p.2)).toList = ps := by rw [Array.toList_map]; exact hp.eval hρ
  have := run_build (P := P) w t (parts.map fun p => (p.1, ρ p.2)) cs (by rw [hm]; exact h)
  simp [execOp, this]

/-! ### Stores -/
theorem run_store1 {w : World} {b off : Nat} {cs : List Value} {T : TypeId} {fz : Nat × Nat} {v u : Value} (H : Sat W (pt b (.cells cs.toArray T fz) :: R) w) (hf : fz = (0, 0) ∨ cs.length ≤ fz.1)
    (ho : v.oneCell' = true) (hu : cs[off]? = some u) : (store ⟨b, off, none⟩ v).run P w = .ok () (w.setCell ⟨b, off, none⟩ v) := by
  have hb := H.get
  have hlt : off < cs.length := (List.getElem?_eq_some_iff.1 hu).1
  have hc : w.cell? ⟨b, off, none⟩ = some u := by simp [World.cell?, hb, hu]
  have hz : w.frozen? ⟨b, off, none⟩ = false := by
    rcases hf with rfl | hf
    · simp [World.frozen?, hb]
    · simp [World.frozen?, hb]; omega
  rw [run_store P w _ v .plain ho, hc]
  simp [hz]
theorem OX_store {x y : Operand} {t b off : Nat} {cs : List Value} {T : TypeId} {v : Value} (hz : ∀ w, (sizeOf t).run P w = .ok 1 w)
    (hx : ev l x = some (.pointer (some ⟨b, off, none⟩))) (hy : ev l y = some v) (ho : v.oneCell' = true) (ho2 : v.cells = #[v]) (hlt : Nat.blt off cs.length = true) :
    OX W P l (pt b (.cells cs.toArray T) :: R) (.store t x y) ty (fun _ L' => L' = pt b (.cells (cs.set off v).toArray T) :: R) := fun ρ hρ w hw _ _ _ _ => by
  have hlt : off < cs.length := Nat.le_of_ble_eq_true hlt
  have hs := run_store1 (P := P) hw (.inl rfl) ho (off := off) (u := cs[off]) (by simp [hlt])
  refine ⟨.skip, w.setCell ⟨b, off, none⟩ v, undef, _, ?_, .inr ⟨rfl, rfl⟩, rfl, by simpa using hw.setCell off v⟩
  simp [execOp, hρ x _ hx, hρ y _ hy, Instr.storeAt, Instr.sureAddr, storeVar, hz, ho2, storeCells, Addr.add_eq, hs]

/-- cells written from place i on -/
def setL (xs : List Value) (i : Nat) : List Value → List Value
  | [] => xs
  | v :: r => setL (xs.set i v) (i + 1) r
theorem setL_length (vs : List Value) : ∀ (xs : List Value) (i : Nat), (setL xs i vs).length = xs.length := by
  induction vs with
  | nil => intro xs i; rfl
  | cons v r ih => intro xs i; simp [setL, ih]
theorem setL_get (vs : List Value) : ∀ (xs : List Value) (i j : Nat), i + vs.length ≤ xs.length → (setL xs i vs)[j]? = if i ≤ j ∧ j < i + vs.length then vs[j - i]? else xs[j]? := by
  induction vs with
  | nil => intro xs i j _; simp [setL]; omega
  | cons v r ih =>
    intro xs i j h
    simp at h
    simp only [setL]
    rw [ih _ _ _ (by simp; omega)]
    by_cases h1 : i + 1 ≤ j ∧ j < i + 1 + r.length
    · rw [if_pos h1, if_pos (by simp; omega)]
      have : j - i = (j - (i + 1)) + 1 := by omega
      rw [this]; rfl
    · rw [if_neg h1]
      by_cases h2 : j = i
      · subst h2
        rw [if_pos (by simp), List.getElem?_set_self (by omega)]; simp
      · rw [List.getElem?_set_ne (Ne.symm h2), if_neg (by simp; omega)]
theorem run_storeCells {T : TypeId} {fz : Nat × Nat} {b off : Nat} : ∀ (vs : List Value) (i : Nat) (cs : List Value) (w : World), Sat W (pt b (.cells cs.toArray T fz) :: R) w → (fz = (0, 0) ∨ cs.length ≤ fz.1) →
    (∀ v ∈ vs, v.oneCell' = true) → off + i + vs.length ≤ cs.length →
    ∃ w', (storeCells ⟨b, off, none⟩ vs i).run P w = .ok () w' ∧ Sat W (pt b (.cells (setL cs (off + i) vs).toArray T fz) :: R) w'
  | [], i, cs, w, H, _, _, _ => ⟨w, by simp [storeCells], H⟩
  | v :: r, i, cs, w, H, hf, ho, hl => by
    simp only [List.length_cons] at hl
    have hi : off + i < cs.length := by omega
    have hs := run_store1 (P := P) H hf (ho v (by simp)) (off := off + i) (u := cs[off + i]) (by simp [hi])
    have H' : Sat W (pt b (.cells (cs.set (off + i) v).toArray T fz) :: R) (w.setCell ⟨b, off + i, none⟩ v) := by simpa using H.setCell (off + i) v
    obtain ⟨w', hr, hS⟩ := run_storeCells (off := off) r (i + 1) (cs.set (off + i) v) _ H' (by simpa using hf) (fun u hu => ho u (by simp [hu])) (by simp; omega)
    refine ⟨w', ?_, by simpa [setL, Nat.add_assoc] using hS⟩
    simp [storeCells, Addr.add_eq, hs, hr]
/-- A struct stored whole. -/
theorem OX_storeA {x y : Operand} {t b off m : Nat} {cs vs : List Value} {T : TypeId} (hz : ∀ w, (sizeOf t).run P w = .ok m w) (hm : vs.length = m)
    (hx : ev l x = some (.pointer (some ⟨b, off, none⟩))) (hy : ev l y = some (.agg vs.toArray)) (ho : ∀ v ∈ vs, v.oneCell' = true) (hlt : off + m ≤ cs.length) :
    OX W P l (pt b (.cells cs.toArray T) :: R) (.store t x y) ty (fun _ L' => L' = pt b (.cells (setL cs off vs).toArray T) :: R) := fun ρ hρ w hw _ _ _ _ => by
  obtain ⟨w', hr, hS⟩ := run_storeCells (P := P) (off := off) vs 0 cs w hw (.inl rfl) ho (by omega)
  refine ⟨.skip, w', undef, _, ?_, .inr ⟨rfl, rfl⟩, rfl, by simpa using hS⟩
  simp [execOp, hρ x _ hx, hρ y _ hy, Instr.storeAt, Instr.sureAddr, storeVar, hz, Value.cells, hm, hr]
end
end Go.Proofs.Ytmigjpmadhebfaa
