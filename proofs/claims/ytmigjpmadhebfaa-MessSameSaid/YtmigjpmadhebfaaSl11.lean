/- Slice literals, cut slices, and what stands at a function's end. -/
import Derived.Test.YtmigjpmadhebfaaSl10
import Derived.KernelRfl
import Derived.IntWalk
namespace Go.Proofs.Ytmigjpmadhebfaa
open Go

/-- Parts from place i to the end, each of z cells. -/
inductive Dense (z : Nat) : Nat → Nat → List (Nat × Value) → List Value → Prop where
  | nil {i : Nat} : Dense z i i [] []
  | cons {i len : Nat} {v : Value} {c cs : List Value} {ps : List (Nat × Value)} (hc : v.cells = c.toArray) (hz : c.length = z) (r : Dense z (i + 1) len ps cs) : Dense z i len ((i, v) :: ps) (c ++ cs)
inductive Dense1 : Nat → Nat → List (Nat × Value) → List Value → Prop where
  | nil {i : Nat} : Dense1 i i [] []
  | cons {i len : Nat} {v : Value} {cs : List Value} {ps : List (Nat × Value)} (hc : v.cells = #[v]) (r : Dense1 (i + 1) len ps cs) : Dense1 i len ((i, v) :: ps) (v :: cs)
theorem Dense1.dense : ∀ {i len : Nat} {ps : List (Nat × Value)} {cs : List Value}, Dense1 i len ps cs → Dense 1 i len ps cs
  | _, _, _, _, .nil => .nil
  | _, _, _, _, .cons hc r => .cons (c := [_]) hc rfl r.dense
theorem foldl_set_cells (c : List Value) : ∀ (j : Nat) (xs : Array Value) (off : Nat), (c.zipIdx j).foldl (fun cs (p : Value × Nat) => cs.setIfInBounds (off + p.2) p.1) xs = (setL xs.toList (off + j) c).toArray := by
  induction c with
  | nil => intro j xs off; simp [setL]
  | cons v r ih =>
    intro j xs off
    simp only [List.zipIdx_cons, List.foldl_cons, ih, setL]
    simp [Nat.add_assoc]
theorem fill_dense {z : Nat} : ∀ {i len : Nat} {ps : List (Nat × Value)} {cs : List Value}, Dense z i len ps cs → ∀ (pre rest : List Value), pre.length = i * z → rest.length = (len - i) * z →
    Instr.fill (fun i => some (i * z, z)) (pre ++ rest).toArray ps = some (pre ++ cs).toArray ∧ i ≤ len
  | i, _, _, _, .nil, pre, rest, _, hr => by
    have : rest = [] := by simpa using hr
    subst this
    exact ⟨rfl, Nat.le_refl _⟩
  | i, len, _, _, .cons (v := v) (c := c) (cs := cs) (ps := ps) hc hz r, pre, rest, hp, hr => by
    have hlt : i < len ∨ len ≤ i := Nat.lt_or_ge i len
    have hle : i + 1 ≤ len := by
      have := fill_dense r (List.replicate ((i + 1) * z) default) (List.replicate ((len - (i + 1)) * z) default) (by simp) (by simp)
      exact this.2
    have hrz : rest.length = z + (len - (i + 1)) * z := by
      rw [hr, show len - i = (len - (i + 1)) + 1 from by omega, Nat.add_mul]; omega
    have hstep : (v.cells.zipIdx.foldl (fun cs (p : Value × Nat) => cs.setIfInBounds (i * z + p.2) p.1) (pre ++ rest).toArray) = (pre ++ c ++ rest.drop z).toArray := by
      rw [hc]
      have := foldl_set_cells c 0 (pre ++ rest).toArray (i * z)
      have h2 : (c.toArray.zipIdx.foldl (fun cs (p : Value × Nat) => cs.setIfInBounds (i * z + p.2) p.1) (pre ++ rest).toArray) = (c.zipIdx 0).foldl (fun cs (p : Value × Nat) => cs.setIfInBounds (i * z + p.2) p.1) (pre ++ rest).toArray := by
        rw [← Array.foldl_toList]; simp
      rw [h2, this]
      congr 1
      apply List.ext_getElem?
      intro j
      rw [setL_get _ _ _ _ (by simp; omega)]
      simp only [Nat.add_zero]
      by_cases h1 : i * z ≤ j ∧ j < i * z + c.length
      · rw [if_pos h1, List.append_assoc, List.getElem?_append_right (by omega), List.getElem?_append_left (by omega), hp]
      · rw [if_neg h1]
        by_cases h3 : j < i * z
        · rw [List.append_assoc, List.getElem?_append_left (by omega), List.getElem?_append_left (by omega)]
        · have e1 : pre.length ≤ j := by omega
          have e2 : (pre ++ c).length ≤ j := by rw [List.length_append]; omega
          rw [List.getElem?_append_right e1, List.getElem?_append_right e2, List.getElem?_drop, List.length_append]
          congr 1; omega
    have ih := fill_dense r (pre ++ c) (rest.drop z) (by simp [hp, hz, Nat.add_mul]) (by simp [hrz])
    refine ⟨?_, by omega⟩
    have hsz : v.cells.size = z := by rw [hc]; simpa using hz
    simp only [Instr.fill]
    rw [if_neg (by
      simp only [hsz, List.size_toArray, List.length_append, hp, hrz, ne_eq, not_true_eq_false, decide_false, Bool.false_or, decide_eq_true_eq]
      omega)]
    rw [hstep]
    simpa using ih.1

section
variable {W : World} {P : Program} {n : Nat} {k : Kont} {l : Env} {c : Code} {ops : Array Oper} {os : List Oper} {r : Ord} {Ts : Facts} {L R T : List HProp} {ty : TypeId} {v : Value}
theorem OX_lit {t e len z : Nat} {parts : Array (Nat × Operand)} {ps : List (Nat × Value)} {cs : List Value} {ie : TypeInfo} {zv : Value}
    (hu : P.underlying t = some (.slice e)) (hie : P.info? e = some ie) (hz : ie.zero = some zv) (hs : ie.size = z) (hsmall : Nat.ble (len * z) (2 ^ 24) = true) (hpos : Nat.blt 0 (len * z) = true)
    (hp : EvL l parts.toList ps) (hd : Dense z 0 len ps cs) :
    OX W P l L (.buildSlice t len parts) ty (fun u L' => ∃ b, u = .slice (some ⟨b, 0, none⟩) len len ∧ L' = pt b (.cells cs.toArray e) :: L) := by
  have h1 := Nat.le_of_ble_eq_true hsmall
  have h2 : 0 < len * z := Nat.le_of_ble_eq_true hpos
  subst hs
  refine OX_buildSlice hu hie hz (by omega) (by omega) hp ?_
  have := (fill_dense hd [] ((List.range (len * ie.size)).map (zv.cells[· % zv.cells.size]!)) (by simp) (by simp)).1
  have e : (Array.range (len * ie.size)).map (zv.cells[· % zv.cells.size]!) = ([] ++ (List.range (len * ie.size)).map (zv.cells[· % zv.cells.size]!)).toArray := by
    apply Array.ext'; simp
  rw [e]; simpa using this
theorem OX_lit1 {t e len : Nat} {parts : Array (Nat × Operand)} {ps : List (Nat × Value)} {cs : List Value} {ie : TypeInfo} {zv : Value}
    (hu : P.underlying t = some (.slice e)) (hie : P.info? e = some ie) (hz : ie.zero = some zv) (hs : ie.size = 1) (hsmall : Nat.ble (len * 1) (2 ^ 24) = true) (hpos : Nat.blt 0 (len * 1) = true)
    (hp : EvL l parts.toList ps) (hd : Dense1 0 len ps cs) :
    OX W P l L (.buildSlice t len parts) ty (fun u L' => ∃ b, u = .slice (some ⟨b, 0, none⟩) len len ∧ L' = pt b (.cells cs.toArray e) :: L) :=
  OX_lit hu hie hz hs hsmall hpos hp hd.dense
theorem OX_mk {α : Type} [DecidableEq α] (K : Keyed α) {t : TypeId} : OX W P l L (.makeMap t none) ty (fun u L' => ∃ b, u = .map (some b) ∧ L' = mapP K b [] :: L) := fun ρ hρ w hw _ _ _ _ =>
  ⟨.value (.map (some w.heap.size)), { w with heap := w.heap.push (.map #[] 0) }, _, _, by simp [execOp, Instr.makeMap], .inl rfl, ⟨_, rfl, rfl⟩, (hw.new _).imp fun _ ⟨h1, h2, d, e, a, q⟩ => ⟨h1, h2, d, e, mapP_new a, q⟩⟩

/-! cuts -/
theorem add_zero' (p : Addr) : p.add 0 = p := rfl
theorem sBase_0 (a : Option Addr) (z m : Nat) : sBase a 0 z m = a := by
  unfold sBase; split
  · rfl
  · cases a <;> simp [add_zero']

theorem RD_cutH {x hi : Operand} {t e z m c : Nat} {a : Option Addr} {kh : IntKind} {ih : Int} (hs : ∀ w, (underlying t).run P w = .ok (.slice e) w) (hz : ∀ w, (sizeOf e).run P w = .ok z w)
    (hx : ev l x = some (.slice a m c)) (hh : ev l hi = some (.int kh ih)) (h0 : 0 ≤ ih) (h1 : ih ≤ c) : RD P l (.slice t x none (some hi) none) ty RU (.slice a ih.toNat c) := by
  have := RD_slice (P := P) (l := l) (ty := ty) (kl := .i64) (km := .i64) (im := c) hs hz hx (.inl ⟨rfl, rfl⟩) (.inr ⟨hi, rfl, hh⟩) (.inl ⟨rfl, rfl⟩) (Int.le_refl _) h0 h1 (Int.le_refl _)
  simpa [sBase_0] using this
theorem RD_cutL {x lo : Operand} {t e z m c : Nat} {a : Option Addr} {kl : IntKind} {il : Int} (hs : ∀ w, (underlying t).run P w = .ok (.slice e) w) (hz : ∀ w, (sizeOf e).run P w = .ok z w)
    (hx : ev l x = some (.slice a m c)) (hl : ev l lo = some (.int kl il)) (h0 : 0 ≤ il) (h1 : il ≤ m) (h2 : m ≤ c) : RD P l (.slice t x (some lo) none none) ty RU (.slice (sBase a il.toNat z c) (m - il.toNat) (c - il.toNat)) := by
  have := RD_slice (P := P) (l := l) (ty := ty) (kh := .i64) (km := .i64) (ih := m) (im := c) hs hz hx (.inr ⟨lo, rfl, hl⟩) (.inl ⟨rfl, rfl, rfl⟩) (.inl ⟨rfl, rfl⟩) h0 h1 (by omega) (Int.le_refl _)
  simpa using this
theorem RD_cutHM {x hi mx : Operand} {t e z m c : Nat} {a : Option Addr} {kh km : IntKind} {ih im : Int} (hs : ∀ w, (underlying t).run P w = .ok (.slice e) w) (hz : ∀ w, (sizeOf e).run P w = .ok z w)
    (hx : ev l x = some (.slice a m c)) (hh : ev l hi = some (.int kh ih)) (hm : ev l mx = some (.int km im)) (h0 : 0 ≤ ih) (h1 : ih ≤ im) (h2 : im ≤ c) : RD P l (.slice t x none (some hi) (some mx)) ty RU (.slice a ih.toNat im.toNat) := by
  have := RD_slice (P := P) (l := l) (ty := ty) (kl := .i64) hs hz hx (.inl ⟨rfl, rfl⟩) (.inr ⟨hi, rfl, hh⟩) (.inr ⟨mx, rfl, hm⟩) (Int.le_refl _) h0 h1 h2
  simpa [sBase_0] using this
theorem row_new (E z : Nat) (a : Option Addr) {L : List HProp} : Lands L (rowP E z a 0 0 [] :: L) := fun _ h => rowP_nil h
/-- A loop, by what holds at each round's head. -/
theorem SC_ind {X : Type} (C : X → Prop) (μ : X → Nat) (inv : X → Env) (I : X → List HProp) (x0 : X) (h0 : C x0) (hl : EnvLe (inv x0) l) (hL : Lands L (I x0))
    (body : ∀ x, C x → (∀ y, C y → μ y < μ x → SC W P n c (.loop c k) (inv y) (I y)) → SC W P n c (.loop c k) (inv x) (I x)) : SC W P n (.loop c) k l L := by
  have key : ∀ (m : Nat) x, μ x = m → C x → SC W P n c (.loop c k) (inv x) (I x) := by
    intro m
    induction m using Nat.strongRecOn with
    | _ m ih => exact fun x hm hx => body x hx fun y hy hlt => ih (μ y) (hm ▸ hlt) y rfl hy
  exact SC_loop ((SC.lands hL (key _ x0 rfl h0)).le hl)
/-- Where ways meet again. -/
theorem SC_join {X : Type} (inv : X → Env) (I : X → List HProp) (h : ∀ x, SN W P n k (inv x) (I x)) (g : (∀ x l' L', EnvLe (inv x) l' → Lands L' (I x) → SN W P n k l' L') → SC W P n c k l L) : SC W P n c k l L :=
  g fun x _ _ hl hL => (SN.lands hL (h x)).le hl
theorem EnvLe.cons' {d : Nat} {v v' : Value} {l l' : Env} (h : look l' d = some v') (e : v' = v) (r : EnvLe l l') : EnvLe ((d, v) :: l) l' := .cons (e ▸ h) r
theorem ie {k : IntKind} {a b : Int} (h : a = b) : Value.int k a = Value.int k b := by rw [h]
theorem SC_again {l' : Env} {L' : List HProp} (h : SC W P n c (.loop c k) l' L') (hL : Lands L L') (hl : EnvLe l' l) : SN W P n (.loop c k) l L := SN_loop ((SC.lands hL h).le hl)
/-- An object is what its blocks are. -/
def Opens {κ σ X : Type} (I : κ → σ → HProp) (key : κ) (s : σ) (C : X → Prop) (B : X → List HProp → List HProp) : Prop :=
  ∀ R m, Den (At I key s :: R) m → ∃ x, C x ∧ Den (B x R) m
section
variable {κ σ X : Type} {I : κ → σ → HProp} {key : κ} {s : σ} {C : X → Prop} {B : X → List HProp → List HProp}
theorem SC.opn (o : Opens I key s C B) [t : TakeAt L I key s R] (h : ∀ x, C x → SC W P n c k l (B x R)) : SC W P n c k l L := fun a w ha hw => by
  obtain ⟨x, hx, hd⟩ := o R _ (Den_perm t.perm _ hw.2.2.2)
  exact h x hx a w ha ⟨hw.1, hw.2.1, hw.2.2.1, hd⟩
theorem SR.opn (o : Opens I key s C B) [t : TakeAt L I key s R] (h : ∀ x, C x → SR W P n ops os k l (B x R)) : SR W P n ops os k l L := fun a w ha hw => by
  obtain ⟨x, hx, hd⟩ := o R _ (Den_perm t.perm _ hw.2.2.2)
  exact h x hx a w ha ⟨hw.1, hw.2.1, hw.2.2.1, hd⟩
theorem SQ.opn (o : Opens I key s C B) [t : TakeAt L I key s R] (h : ∀ x, C x → SQ W P n ops r Ts k l (B x R)) : SQ W P n ops r Ts k l L := fun hs li f hc a w ha hw => by
  obtain ⟨x, hx, hd⟩ := o R _ (Den_perm t.perm _ hw.2.2.2)
  exact h x hx hs li f hc a w ha ⟨hw.1, hw.2.1, hw.2.2.1, hd⟩
theorem SN.opn (o : Opens I key s C B) [t : TakeAt L I key s R] (h : ∀ x, C x → SN W P n k l (B x R)) : SN W P n k l L := fun a w ha hw => by
  obtain ⟨x, hx, hd⟩ := o R _ (Den_perm t.perm _ hw.2.2.2)
  exact h x hx a w ha ⟨hw.1, hw.2.1, hw.2.2.1, hd⟩
theorem CallsK.opn {f : FuncId} {args : Array Value} {K : Value → List HProp → Prop} (o : Opens I key s C B) [t : TakeAt L I key s R] (h : ∀ x, C x → CallsK W P f args (B x R) K) : CallsK W P f args L K := fun w hw => by
  obtain ⟨x, hx, hd⟩ := o R _ (Den_perm t.perm _ hw.2.2.2)
  exact h x hx w ⟨hw.1, hw.2.1, hw.2.2.1, hd⟩
end
/-- []byte("constant"): a row, marked. -/
theorem OX_mark {x : Operand} {t e b m c2 E : Nat} {cs : List Value} (hs : P.underlying t = some (.slice e)) (he : P.underlying e = some (.int .u8)) (hx : ev l x = some (.slice (some ⟨b, 0, none⟩) m c2)) [tp : TakePt L b (.cells cs.toArray E) R] :
    OX W P l L (.convert t t x) ty (fun u L' => ∃ fz : Nat × Nat, u = .slice (some ⟨b, 0, none⟩) m c2 ∧ L' = pt b (.cells cs.toArray E fz) :: R) := fun ρ hρ w hw _ _ _ _ => by
  have H := hw.perm tp.perm
  have hb := H.get
  have hsh : w.shape? b = some (E, cs.length) := by simp [World.shape?, hb]
  refine ⟨_, w.freeze ⟨b, cs.length, none⟩ 1, .slice (some ⟨b, 0, none⟩) m c2, _, ?_, .inl rfl, ⟨_, rfl, rfl⟩, H.turn (o' := .cells cs.toArray E (cs.length, cs.length + 1)) rfl rfl rfl fun k => ?_⟩
  · simp [execOp, hρ x _ hx, convert, run_underlying hs, run_underlying he, markStringish, hsh, Result.andThen]
  · simp only [World.freeze]
    rw [if_neg (by decide), Array.getElem?_modify]
    by_cases e : k = b
    · subst e; simp [hb]
    · rw [if_neg (fun x => e x.symm), if_neg e]
/-- An index below a length that is itself below the row's. -/
theorem RD_ix8 {x y : Operand} {t e m c2 z : Nat} {kk : IntKind} {i : Int} {a : Option Addr} {cs : List Value} (hs : ∀ w, (underlying t).run P w = .ok (.slice e) w) (hz : ∀ w, (sizeOf e).run P w = .ok (z + 1) w)
    (hx : ev l x = some (.slice a m c2)) (hy : ev l y = some (.int kk i)) (hc : 0 < cs.length) (h0 : 0 ≤ i) (h1 : i < m) :
    RD P l (.indexAddr t x y) ty (rowR a cs) (.pointer (some (elA a (i.toNat * (z + 1))))) := fun ρ hρ w hR _ _ _ _ => by
  obtain ⟨b, off, rfl, _⟩ := hR.some hc
  simp [execOp, hρ x _ hx, hρ y _ hy, Instr.indexAt, asIntOf, hs, hz, h0, h1, Addr.add_eq, elA]
theorem hasRow_take {a : Option Addr} {cs ds : List Value} [h : HasRow L a cs] (m : Nat) (e : ds = cs.take m) : HasRow L a ds := ⟨⟨rowR.up, fun q hq => by
  subst e
  have := h.r.2 q hq
  cases a with
  | none => have : cs = [] := this; subst this; simp; rfl
  | some p =>
    obtain ⟨b, off, sp⟩ := p
    cases sp with
    | none =>
      intro j v hj
      rw [List.getElem?_take] at hj
      split at hj
      · exact this j v hj
      · cases hj
    | some s => have : cs = [] := this; subst this; simp; exact rowR_nil q⟩⟩
/-- A row cut at its beginning. -/
theorem row_cut {E z n c : Nat} {a : Option Addr} {cs : List Value} [Abs R] (d : Nat) (hd : d ≤ n) : Lands (rowP E z a n c cs :: R) (rowP E z (sBase a d z c) (n - d) (c - d) (cs.drop (d * z)) :: R) := by
  rintro m ⟨m1, m2, dj, e, H, r⟩
  by_cases hc : c = d
  · have hlen := rowP_len H
    have hn : n - d = 0 := by omega
    have hcd : c - d = 0 := by omega
    have hnil : cs.drop (d * z) = [] := by
      apply List.drop_eq_nil_of_le
      rw [hlen.1]; exact Nat.mul_le_mul_right _ (by omega)
    rw [hn, hcd, hnil]
    refine rowP_nil ?_
    exact Abs.h _ _ ⟨m1, m2, dj, e, H, r⟩
  · rcases H with ⟨rfl, rfl, rfl, _⟩ | ⟨b, off, xs, fz, rfl, hp, hl, hnc, hoff, hfz, hcell⟩
    · exfalso; omega
    · refine ⟨m1, m2, dj, e, .inr ⟨b, off + d * z, xs, fz, by simp [sBase, hc, Addr.add_eq], hp, ?_, by omega, ?_, hfz, ?_⟩, r⟩
      · rw [List.length_drop, hl, Nat.sub_mul]
      · rw [Nat.sub_mul]
        have : d * z ≤ c * z := Nat.mul_le_mul_right _ (by omega)
        omega
      · intro j v hv
        rw [List.getElem?_drop] at hv
        have := hcell _ _ hv
        rwa [← Nat.add_assoc] at this
theorem SC.pure {Q : Hp → Prop} {p : Prop} (hQ : Has W L Q) (hp : ∀ h, Q h → p) (h : p → SC W P n c k l L) : SC W P n c k l L := fun a w ha hw => h (hp _ (hQ w hw)) a w ha hw
theorem SR.pure {Q : Hp → Prop} {p : Prop} (hQ : Has W L Q) (hp : ∀ h, Q h → p) (h : p → SR W P n ops os k l L) : SR W P n ops os k l L := fun a w ha hw => h (hp _ (hQ w hw)) a w ha hw
theorem SC.row_none {cs : List Value} [HasRow L none cs] (h : cs = [] → SC W P n c k l L) : SC W P n c k l L := SC.pure (Has.ro (a := none)) (fun _ e => e) h
theorem SC.row_len {E z m c2 : Nat} {a : Option Addr} {cs : List Value} [t : TakeRow L a E z m c2 cs R] (h : cs.length = m * z → m ≤ c2 → SC W P n c k l L) : SC W P n c k l L := fun x w hx hw => by
  obtain ⟨m1, H, _⟩ := Den_head (Den_perm t.perm _ hw.2.2.2)
  exact h (rowP_len H).1 (rowP_len H).2 x w hx hw
theorem run_equalIn_sl (d m c2 m' c' : Nat) {t e : TypeId} (a : Option Addr) (w : World) (ht : (underlying t).run P w = .ok (.slice e) w) : (Op.equalIn (d + 1) t (.slice a m c2) (.slice none m' c')).run P w = .ok a.isNone w := by
  cases a <;> simp [Op.equalIn, ht]
theorem RD_eqlSl {x y : Operand} {t yt e m c2 : Nat} {a : Option Addr} {m' c' : Nat} (ht : P.underlying t = some (.slice e)) (hx : ev l x = some (.slice a m c2)) (hy : ev l y = some (.slice none m' c')) : RD P l (.binOp .eql t x y yt) ty RU (.bool a.isNone) := fun ρ hρ w _ _ _ _ _ => by
  have h2 := run_equalIn_sl 9999 m c2 m' c' a w (run_underlying ht w)
  simp [execOp, hρ x _ hx, hρ y _ hy, eqGuard, binOp, Op.equal, Op.maxDepth, h2]
theorem RD_conv64 {x : Operand} {s t : TypeId} {j : IntKind} {a : Int} {d : TypeDesc} (hs : ∀ w, (underlying s).run P w = .ok d w) (ht : ∀ w, (underlying t).run P w = .ok (.int .u64) w) (hx : ev l x = some (.int j a)) (h0 : 0 ≤ a) (h1 : a < 18446744073709551616) : RD P l (.convert s t x) ty RU (.int .u64 a) := by
  have := RD_convI (P := P) (ty := ty) hs ht hx; rwa [IntWalk.u64_in _ ⟨h0, by omega⟩] at this
theorem RD_convi64 {x : Operand} {s t : TypeId} {j : IntKind} {a : Int} {d : TypeDesc} (hs : ∀ w, (underlying s).run P w = .ok d w) (ht : ∀ w, (underlying t).run P w = .ok (.int .i64) w) (hx : ev l x = some (.int j a)) (h0 : -9223372036854775808 ≤ a) (h1 : a < 9223372036854775808) : RD P l (.convert s t x) ty RU (.int .i64 a) := by
  have := RD_convI (P := P) (ty := ty) hs ht hx; rwa [IntWalk.i64_in _ ⟨h0, by omega⟩] at this
theorem RD_lookS {α : Type} [DecidableEq α] {K : Keyed α} {x y : Operand} {t kt et b : Nat} {m : List (α × Value)} {key : α} {z u : Value} (hu : P.underlying t = some (.map kt et)) (hk : P.underlying kt = some K.desc) (hz : ∀ w, (zeroValue et).run P w = .ok z w)
    (hx : ev l x = some (.map (some b))) (hy : ev l y = some (K.val key)) (h : mget m key = some u) : RD P l (.lookup t x y false) ty (mapF K b m) u := by
  have := RD_lookup (P := P) (l := l) (ty := ty) (m := m) (k := key) hu hk hz hx hy; rw [h] at this; exact this
theorem RD_lookNo {α : Type} [DecidableEq α] {K : Keyed α} {x y : Operand} {t kt et b : Nat} {m : List (α × Value)} {key : α} {z : Value} (hu : P.underlying t = some (.map kt et)) (hk : P.underlying kt = some K.desc) (hz : ∀ w, (zeroValue et).run P w = .ok z w)
    (hx : ev l x = some (.map (some b))) (hy : ev l y = some (K.val key)) (h : mget m key = none) : RD P l (.lookup t x y false) ty (mapF K b m) z := by
  have := RD_lookup (P := P) (l := l) (ty := ty) (m := m) (k := key) hu hk hz hx hy; rw [h] at this; exact this
/-- A look-up of numbers: what is there, or 0. -/
def iget (m : List (Int × Value)) (key : Int) : Int := match mget m key with | some (.int .i64 n) => n | _ => 0
theorem mget_int {m : List (Int × Value)} {key : Int} {p : Prop} [Decidable p] {n : Int} (h : mget m key = if p then none else some (.int .i64 n)) : mget m key = none ∨ ∃ n, mget m key = some (.int .i64 n) := by
  rw [h]; split
  · exact .inl rfl
  · exact .inr ⟨_, rfl⟩
theorem RD_lookI {x y : Operand} {t kt et b : Nat} {m : List (Int × Value)} {key : Int} (hu : P.underlying t = some (.map kt et)) (hk : P.underlying kt = some intK.desc) (hz : ∀ w, (zeroValue et).run P w = .ok (.int .i64 0) w)
    (hx : ev l x = some (.map (some b))) (hy : ev l y = some (intK.val key)) (h : mget m key = none ∨ ∃ n, mget m key = some (.int .i64 n)) : RD P l (.lookup t x y false) ty (mapF intK b m) (.int .i64 (iget m key)) := by
  rcases h with h | ⟨n, h⟩
  · have := RD_lookNo (P := P) (l := l) (ty := ty) (K := intK) hu hk hz hx hy h
    simpa [iget, h] using this
  · have := RD_lookS (P := P) (l := l) (ty := ty) (K := intK) hu hk hz hx hy h
    simpa [iget, h] using this
theorem RD_subv {x y : Operand} {t yt : TypeId} {a b : Int} (c : Int) (hx : ev l x = some (.int .i64 a)) (hy : ev l y = some (.int .i64 b)) (h : a - b = c) (h1 : -9223372036854775808 ≤ c) (h2 : c ≤ 9223372036854775807) : RD P l (.binOp .sub t x y yt) ty RU (.int .i64 c) := by
  subst h; exact RD_subi hx hy h1 h2
theorem RD_addv {x y : Operand} {t yt : TypeId} {a b : Int} (c : Int) (hx : ev l x = some (.int .i64 a)) (hy : ev l y = some (.int .i64 b)) (h : a + b = c) (h1 : -9223372036854775808 ≤ c) (h2 : c ≤ 9223372036854775807) : RD P l (.binOp .add t x y yt) ty RU (.int .i64 c) := by
  subst h; exact RD_addi hx hy h1 h2
theorem RD_remk {x y : Operand} {t yt : TypeId} {kk : IntKind} {a b : Int} {q : Nat} (hx : ev l x = some (.int kk a)) (hy : ev l y = some (.int kk b)) (ha : 0 ≤ a) (h0 : 0 < b) (h : a % b = (q : Int)) : RD P l (.binOp .rem t x y yt) ty RU (.int kk (q : Int)) := by
  have := RD_remi (P := P) (ty := ty) (t := t) (yt := yt) hx hy ha h0; rwa [h] at this
theorem band_mask (m : Nat) (hm : m ≤ 62) (x : Int) : band .i64 x ((2 ^ m - 1 : Nat) : Int) = x % (2 ^ m : Nat) := by
  have hp : 2 ^ m ≤ 2 ^ 62 := Nat.pow_le_pow_right (by decide) hm
  have hp0 : 0 < 2 ^ m := Nat.pos_of_ne_zero (by simp)
  have e3 : BitVec.ofInt IntKind.i64.bits ((2 ^ m - 1 : Nat) : Int) = BitVec.ofNat 64 (2 ^ m - 1) := by apply BitVec.eq_of_toNat_eq; simp [IntKind.bits]
  have e4 : (BitVec.ofInt 64 x &&& BitVec.ofNat 64 (2 ^ m - 1)).toNat = ((x % 18446744073709551616).toNat) % 2 ^ m := by
    simp only [BitVec.toNat_and, BitVec.toNat_ofInt, BitVec.toNat_ofNat]
    rw [Nat.mod_eq_of_lt (show 2 ^ m - 1 < 2 ^ 64 by omega), Nat.and_two_pow_sub_one_eq_mod]
    rfl
  have e5 : band .i64 x ((2 ^ m - 1 : Nat) : Int) = IntKind.i64.wrap (((BitVec.ofInt 64 x &&& BitVec.ofNat 64 (2 ^ m - 1)).toNat : Nat) : Int) := by unfold band; rw [e3]; rfl
  rw [e5, e4]
  have hlt := Nat.mod_lt ((x % 18446744073709551616).toNat) hp0
  rw [IntWalk.i64_in _ ⟨by omega, by omega⟩]
  have hd : ((2 ^ m : Nat) : Int) ∣ 18446744073709551616 := by
    refine ⟨((2 ^ (64 - m) : Nat) : Int), ?_⟩
    have : (18446744073709551616 : Nat) = 2 ^ m * 2 ^ (64 - m) := by rw [← Nat.pow_add, show m + (64 - m) = 64 by omega]
    have h2 := congrArg (fun n : Nat => (n : Int)) this
    rw [Int.natCast_mul] at h2
    exact h2
  rw [Int.natCast_emod, Int.toNat_of_nonneg (by omega), Int.emod_emod_of_dvd _ hd]
theorem RD_mask {x y : Operand} {t yt : TypeId} {a b : Int} (m : Nat) (hx : ev l x = some (.int .i64 a)) (hy : ev l y = some (.int .i64 b)) (hb : b = ((2 ^ m - 1 : Nat) : Int)) (hm : m ≤ 62) (M : Int) (hM : M = (2 ^ m : Nat)) : RD P l (.binOp .and t x y yt) ty RU (.int .i64 (a % M)) := by
  have := RD_and (P := P) (ty := ty) (t := t) (yt := yt) hx hy; rw [hb, band_mask m hm] at this; rw [hM]; exact this
theorem cellR_of {w : World} {b off : Nat} (h : w.cell? ⟨b, off, none⟩ = some v) : cellR b off v (fun b => w.heap[b]?) := by
  unfold World.cell? at h
  simp only at h
  split at h
  · rename_i cs T fz e
    exact ⟨cs, T, fz, e, by simpa using h⟩
  · cases h
theorem hasRow_old {w : World} {a : Option Addr} {cs : List Value} (h : rowR a cs (fun b => w.heap[b]?)) : HasRow [junk, old w] a cs := by
  refine HasRow.cons (h := ⟨.head rowR.up fun q hq => ?_⟩)
  exact rowR.up _ _ (fun b o e => by rw [hq b]; exact e) h
theorem rowR_of {w : World} {x : Addr} {cs : List Value} (h : ∀ j v, cs[j]? = some v → w.cell? (x.add j) = some v) : rowR (some x) cs (fun b => w.heap[b]?) := by
  obtain ⟨b, off, sp⟩ := x
  cases sp with
  | none => exact fun j v e => cellR_of (by have := h j v e; rwa [Addr.add_eq] at this)
  | some s =>
    show cs = []
    cases cs with
    | nil => rfl
    | cons v r =>
      have := h 0 v rfl
      simp [Addr.add, World.cell?] at this
      split at this <;> cases this
/-- A law's call, from the world as it came. -/
theorem law_calls {f : FuncId} {args : Array Value} (w : World) (h : CallsK w P f args [junk, old w] (fun v L => v = .bool true ∧ Lands L [junk, old w])) :
    Calls P f args w fun e w' => e = .returned (.bool true) ∧ Go.RowKit.Below w.heap.size w w' := by
  have h0 : Sat w [junk, old w] w := by
    have := Sat.start w
    exact this.imp fun m H => ⟨fun _ => none, m, fun b => .inl rfl, by funext b; simp [join], trivial, H⟩
  refine (h w h0).mono fun e w' ⟨v, L, he, ⟨hv, hl⟩, hs⟩ => ⟨by rw [he, hv], ?_⟩
  exact Sat.below (M := [junk]) (L := []) (hs.imp hl)
theorem RD_cutHMn {x hi mx : Operand} {t e z m c2 d : Nat} {a : Option Addr} {kh km : IntKind} (hs : ∀ w, (underlying t).run P w = .ok (.slice e) w) (hz : ∀ w, (sizeOf e).run P w = .ok z w)
    (hx : ev l x = some (.slice a m c2)) (hh : ev l hi = some (.int kh (d : Int))) (hm : ev l mx = some (.int km (d : Int))) (h2 : d ≤ c2) : RD P l (.slice t x none (some hi) (some mx)) ty RU (.slice a d d) := by
  have := RD_cutHM (P := P) (ty := ty) hs hz hx hh hm (by omega) (Int.le_refl _) (by omega)
  simpa using this
theorem RD_cutLn {x lo : Operand} {t e z m c2 d : Nat} {a : Option Addr} {kl : IntKind} (hs : ∀ w, (underlying t).run P w = .ok (.slice e) w) (hz : ∀ w, (sizeOf e).run P w = .ok z w)
    (hx : ev l x = some (.slice a m c2)) (hl : ev l lo = some (.int kl (d : Int))) (h1 : d ≤ m) (h2 : m ≤ c2) : RD P l (.slice t x (some lo) none none) ty RU (.slice (sBase a d z c2) (m - d) (c2 - d)) := by
  have := RD_cutL (P := P) (ty := ty) hs hz hx hl (by omega) (by omega) h2
  simpa using this
theorem sBase_zero {a : Option Addr} {z m : Nat} (h : m ≠ 0) : sBase a 0 z m = a.map (·.add 0) := by simp [sBase, h]
end
end Go.Proofs.Ytmigjpmadhebfaa
