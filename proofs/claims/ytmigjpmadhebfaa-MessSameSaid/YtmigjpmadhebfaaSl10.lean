/- Finding a block in a list of blocks: by instances. -/
import Derived.Test.YtmigjpmadhebfaaSl9
namespace Go.Proofs.Ytmigjpmadhebfaa
open Go

class TakePt (L : List HProp) (b : Nat) (o : outParam Obj) (R : outParam (List HProp)) : Prop where
  perm : L.Perm (pt b o :: R)
instance (priority := 2000) TakePt.head {b : Nat} {o : Obj} {R : List HProp} : TakePt (pt b o :: R) b o R := ⟨.refl _⟩
instance TakePt.tail {A : HProp} {L R : List HProp} {b : Nat} {o : Obj} [h : TakePt L b o R] : TakePt (A :: L) b o (A :: R) := ⟨(h.perm.cons A).trans (.swap _ _ _)⟩
class TakeRow (L : List HProp) (a : Option Addr) (E z n c : outParam Nat) (cs : outParam (List Value)) (R : outParam (List HProp)) : Prop where
  perm : L.Perm (rowP E z a n c cs :: R)
instance (priority := 2000) TakeRow.head {E z n c : Nat} {a : Option Addr} {cs : List Value} {R : List HProp} : TakeRow (rowP E z a n c cs :: R) a E z n c cs R := ⟨.refl _⟩
instance TakeRow.tail {A : HProp} {L R : List HProp} {E z n c : Nat} {a : Option Addr} {cs : List Value} [h : TakeRow L a E z n c cs R] : TakeRow (A :: L) a E z n c cs (A :: R) := ⟨(h.perm.cons A).trans (.swap _ _ _)⟩
class TakeMap {α : Type} [DecidableEq α] (L : List HProp) (K : Keyed α) (b : Nat) (m : outParam (List (α × Value))) (R : outParam (List HProp)) : Prop where
  perm : L.Perm (mapP K b m :: R)
instance (priority := 2000) TakeMap.head {α : Type} [DecidableEq α] {K : Keyed α} {b : Nat} {m : List (α × Value)} {R : List HProp} : TakeMap (mapP K b m :: R) K b m R := ⟨.refl _⟩
instance TakeMap.tail {α : Type} [DecidableEq α] {K : Keyed α} {A : HProp} {L R : List HProp} {b : Nat} {m : List (α × Value)} [h : TakeMap L K b m R] : TakeMap (A :: L) K b m (A :: R) := ⟨(h.perm.cons A).trans (.swap _ _ _)⟩
/-- An object of a kind I, by its key; what it holds. -/
def At {κ σ : Type} (I : κ → σ → HProp) (k : κ) (s : σ) : HProp := I k s
class TakeAt {κ σ : Type} (L : List HProp) (I : κ → σ → HProp) (k : κ) (s : outParam σ) (R : outParam (List HProp)) : Prop where
  perm : L.Perm (At I k s :: R)
instance (priority := 2000) TakeAt.head {κ σ : Type} {I : κ → σ → HProp} {k : κ} {s : σ} {R : List HProp} : TakeAt (At I k s :: R) I k s R := ⟨.refl _⟩
instance TakeAt.tail {κ σ : Type} {I : κ → σ → HProp} {k : κ} {s : σ} {A : HProp} {L R : List HProp} [h : TakeAt L I k s R] : TakeAt (A :: L) I k s (A :: R) := ⟨(h.perm.cons A).trans (.swap _ _ _)⟩

/-- One may read a row. -/
class HasRow (L : List HProp) (a : Option Addr) (cs : outParam (List Value)) : Prop where
  r : Reads L (rowR a cs)
instance HasRow.cons {A : HProp} {L : List HProp} {a : Option Addr} {cs : List Value} [h : HasRow L a cs] : HasRow (A :: L) a cs := ⟨h.r.cons⟩
instance (priority := 2000) HasRow.row {E z n c : Nat} {L : List HProp} {a : Option Addr} {cs : List Value} : HasRow (rowP E z a n c cs :: L) a cs := ⟨.head rowR.up fun _ H => rowP_reads H⟩
instance (priority := 2000) HasRow.pt {b E : Nat} {L : List HProp} {cs : List Value} {fz : Nat × Nat} : HasRow (pt b (.cells cs.toArray E fz) :: L) (some ⟨b, 0, none⟩) cs :=
  ⟨.head rowR.up fun _ H j v e => ⟨_, _, _, pt_get H, by simpa using e⟩⟩

instance (priority := 50) HasRow.nil {L : List HProp} : HasRow L none [] := ⟨⟨rowR.up, fun h _ => rowR_nil h⟩⟩

/-- These blocks come to those. -/
def Lands (L T : List HProp) : Prop := ∀ m, Den L m → Den T m
/-- One atom, whole. -/
class TakeA (L : List HProp) (A : HProp) (R : outParam (List HProp)) : Prop where
  perm : L.Perm (A :: R)
instance (priority := 2000) TakeA.head {A : HProp} {R : List HProp} : TakeA (A :: R) A R := ⟨.refl _⟩
instance TakeA.tail {A B : HProp} {L R : List HProp} [h : TakeA L A R] : TakeA (B :: L) A (B :: R) := ⟨(h.perm.cons B).trans (.swap _ _ _)⟩
class Fin (L T : List HProp) : Prop where
  h : Lands L T
instance (priority := 3000) Fin.refl {L : List HProp} : Fin L L := ⟨fun _ H => H⟩
instance (priority := 2000) Fin.take {A : HProp} {L R T : List HProp} [t : TakeA L A R] [f : Fin R T] : Fin L (A :: T) :=
  ⟨fun m H => by obtain ⟨h1, h2, d, e, a, r⟩ := Den_perm t.perm m H; exact ⟨h1, h2, d, e, a, f.h _ r⟩⟩
instance Fin.drop {A : HProp} {L T : List HProp} [h : Abs L] [f : Fin L T] : Fin (A :: L) T := ⟨fun m H => f.h m (h.h A m H)⟩

theorem Lands.fin {L T : List HProp} [f : Fin L T] : Lands L T := f.h
theorem Lands.trans {L M T : List HProp} (h : Lands L M) (k : Lands M T) : Lands L T := fun m H => k m (h m H)
theorem Lands.cons {A : HProp} {L T : List HProp} (h : Lands L T) : Lands (A :: L) (A :: T) := fun _ ⟨h1, h2, d, e, a, r⟩ => ⟨h1, h2, d, e, a, h _ r⟩

section
variable {W : World} {P : Program} {n : Nat} {k : Kont} {l : Env} {c : Code} {ops : Array Oper} {os : List Oper} {r : Ord} {Ts : Facts} {f : FuncId} {args : Array Value} {KK : Value → List HProp → Prop} {L R T : List HProp} {ty : TypeId} {v : Value}
theorem SC.lands (h : Lands L T) (g : SC W P n c k l T) : SC W P n c k l L := g.imp h
theorem SN.lands (h : Lands L T) (g : SN W P n k l T) : SN W P n k l L := g.imp h
theorem SR.lands (h : Lands L T) (g : SR W P n ops os k l T) : SR W P n ops os k l L := g.imp h
theorem SQ.lands (h : Lands L T) (g : SQ W P n ops r Ts k l T) : SQ W P n ops r Ts k l L := g.imp h
theorem CallsK.lands (h : Lands L T) (g : CallsK W P f args T KK) : CallsK W P f args L KK := g.pre h
theorem OX.lands {op : Op} {K : Value → List HProp → Prop} (h : Lands L T) (g : OX W P l T op ty K) : OX W P l L op ty K := fun ρ hρ w hw => g ρ hρ w (hw.imp h)
theorem OX.imp {op : Op} {K K' : Value → List HProp → Prop} (g : OX W P l L op ty K) (h : ∀ v M, K v M → K' v M) : OX W P l L op ty K' := fun ρ hρ w hw d p a q =>
  let ⟨nx, w', v, L', h1, h2, h3, h4⟩ := g ρ hρ w hw d p a q
  ⟨nx, w', v, L', h1, h2, h _ _ h3, h4⟩

theorem Has.lands {Q : Hp → Prop} (h : Lands L T) (g : Has W T Q) : Has W L Q := fun w hw => g w (hw.imp h)
theorem Keeps.lands {j : Nat} (h : Lands L T) : ∀ {Ts : Facts}, Keeps W ops j T Ts → Keeps W ops j L Ts
  | [], _ => trivial
  | (q, _) :: _, k => ⟨by have := k.1; cases e : waits ops j q <;> simp only [e, cond_true, cond_false] at this ⊢; exact this.lands h, Keeps.lands h k.2⟩
theorem CallsK.at {κ σ : Type} {I : κ → σ → HProp} {key : κ} {s : σ} [t : TakeAt L I key s R] (g : CallsK W P f args (At I key s :: R) KK) : CallsK W P f args L KK := g.pre fun m => Den_perm t.perm m
theorem Has.pt {b : Nat} {o : Obj} {Q : Hp → Prop} [t : TakePt L b o R] (hQ : ∀ h : Hp, h b = some o → Q h) : Has W L Q := fun w hw => hQ _ (hw.perm t.perm).get
theorem Has.ce {b off : Nat} {cs : List Value} {E : TypeId} {fz : Nat × Nat} [t : TakePt L b (.cells cs.toArray E fz) R] (hv : cs[off]? = some v) : Has W L (cellR b off v) :=
  Has.pt fun _ e => ⟨_, _, _, e, by simpa using hv⟩
theorem Has.ces {b off : Nat} {cs vs : List Value} {E : TypeId} {fz : Nat × Nat} [t : TakePt L b (.cells cs.toArray E fz) R] (hv : ∀ j v, vs[j]? = some v → cs[off + j]? = some v) : Has W L (cellsR b off vs) :=
  Has.pt fun _ e j v h => ⟨_, _, _, e, by simpa using hv j v h⟩
theorem Has.wh {b : Nat} {cs : List Value} {E : TypeId} {fz : Nat × Nat} [t : TakePt L b (.cells cs.toArray E fz) R] : Has W L (cellsR b 0 cs) :=
  Has.ces fun j v h => by simpa using h
theorem Has.ro {a : Option Addr} {cs : List Value} [h : HasRow L a cs] : Has W L (rowR a cs) := .of_reads h.r
theorem Has.ma {α : Type} [DecidableEq α] {K : Keyed α} {b : Nat} {m : List (α × Value)} [t : TakeMap L K b m R] : Has W L (mapF K b m) := fun w hw => Has.mapP (i := 0) (L := Go.Proofs.Ytmigjpmadhebfaa.mapP K b m :: R) rfl w (hw.perm t.perm)

/-! values of one cell -/
class One (v : Value) : Prop where
  one : v.oneCell' = true
  cells : v.cells = #[v]
instance {k : IntKind} {n : Int} : One (.int k n) := ⟨rfl, rfl⟩
instance {b : Bool} : One (.bool b) := ⟨rfl, rfl⟩
instance {s : ByteArray} : One (.string s) := ⟨rfl, rfl⟩
instance {p : Option Addr} : One (.pointer p) := ⟨rfl, rfl⟩
instance {p : Option Addr} {n c : Nat} : One (.slice p n c) := ⟨rfl, rfl⟩
instance {p : Option Nat} : One (.map p) := ⟨rfl, rfl⟩
instance {c : UInt8} : One (byteV c) := ⟨rfl, rfl⟩
instance {n : Int} : One (intV n) := ⟨rfl, rfl⟩
class Ones (ds : List Value) : Prop where
  h : ∀ v ∈ ds, v.oneCell' = true
instance : Ones [] := ⟨by simp⟩
instance {v : Value} {ds : List Value} [a : One v] [b : Ones ds] : Ones (v :: ds) := ⟨fun u hu => by rcases List.mem_cons.1 hu with rfl | h <;> first | exact a.one | exact b.h _ h⟩
instance {a b : List Value} [h : Ones a] [k : Ones b] : Ones (a ++ b) := ⟨fun u hu => by rcases List.mem_append.1 hu with x | x <;> first | exact h.h u x | exact k.h u x⟩
instance {α : Type} {f : α → Value} {l : List α} [h : ∀ x, One (f x)] : Ones (l.map f) := ⟨by simp only [List.mem_map]; rintro u ⟨x, _, rfl⟩; exact (h x).one⟩
instance {α : Type} {f : α → List Value} {l : List α} [h : ∀ x, Ones (f x)] : Ones (l.flatMap f) := ⟨by simp only [List.mem_flatMap]; rintro u ⟨x, _, hx⟩; exact (h x).h u hx⟩

/-! stores, by place -/
class SetAt (cs : List Value) (i : Nat) (v : Value) (cs' : outParam (List Value)) : Prop where
  eq : cs.set i v = cs'
  lt : i < cs.length
instance SetAt.zero {x v : Value} {r : List Value} : SetAt (x :: r) 0 v (v :: r) := ⟨rfl, by simp⟩
instance SetAt.succ {x v : Value} {r r' : List Value} {i : Nat} [h : SetAt r i v r'] : SetAt (x :: r) (i + 1) v (x :: r') := ⟨by simp [h.eq], by have := h.lt; simp; omega⟩
theorem OX_st {x y : Operand} {t b off : Nat} {cs cs' : List Value} {T : TypeId} {v : Value} (hz : ∀ w, (sizeOf t).run P w = .ok 1 w)
    (hx : ev l x = some (.pointer (some ⟨b, off, none⟩))) (hy : ev l y = some v) [ho : One v] [tp : TakePt L b (.cells cs.toArray T) R] [s : SetAt cs off v cs'] :
    OX W P l L (.store t x y) ty (fun _ L' => L' = pt b (.cells cs'.toArray T) :: R) := by
  have hlt : Nat.blt off cs.length = true := Nat.ble_eq_true_of_le s.lt
  exact (OX.lands (fun m => Den_perm tp.perm m) (OX_store hz hx hy ho.one ho.cells hlt)).imp fun _ _ e => by rw [e, s.eq]
theorem OX_stRow {x y : Operand} {t E z n c j : Nat} {a : Option Addr} {cs : List Value} {v : Value} (hz : ∀ w, (sizeOf t).run P w = .ok 1 w)
    (hx : ev l x = some (.pointer (some (elA a j)))) (hy : ev l y = some v) [ho : One v] [tp : TakeRow L a E z n c cs R] (hlt : j < cs.length) :
    OX W P l L (.store t x y) ty (fun _ L' => L' = rowP E z a n c (cs.set j v) :: R) :=
  OX.lands (fun m => Den_perm tp.perm m) (OX_storeRow hz hx hy ho.one ho.cells hlt)
theorem OX_app {x y : Operand} {t t2 E n c m c2 : Nat} (z : Nat) {a a2 : Option Addr} {cs ds : List Value} {i : TypeInfo} {zv : Value}
    (ht : P.underlying t = some (.slice E)) (ht2 : P.underlying t2 = some (.slice E)) (hi : P.info? E = some i) (hz : i.zero = some zv) (hsz : i.size = z) (hzc : zv.cells.size = z)
    [hF : Abs R] (hx : ev l x = some (.slice a n c)) (hy : ev l y = some (.slice a2 m c2)) [tp : TakeRow L a E z n c cs R] [hr : HasRow L a2 ds] (hds : ds.length = m * z) [hone : Ones ds]
    (B : Nat) (hB : i.bytes = B) (hb : (n + m) * B ≤ 140737488355328) (hb2 : n + m ≤ 9223372036854775807) :
    OX W P l L (.call ⟨.builtin .append, #[x, y], #[t, t2]⟩) ty
      (fun u L' => ∃ a' c', u = .slice a' (n + m) c' ∧ L' = rowP E z a' (n + m) c' (cs ++ ds) :: R) :=
  OX.lands (fun m => Den_perm tp.perm m) (OX_append ht ht2 hi hz hsz hzc hx hy hds hone.h (Has.of_reads (hr.r.perm tp.perm)) (hB ▸ hb) hb2)
/-- What is appended to may be another's row without room (s[:0:0]), or none. -/
theorem OX_app0 {x y : Operand} {t t2 E m c2 : Nat} (z : Nat) {a a2 : Option Addr} {ds : List Value} {i : TypeInfo} {zv : Value}
    (ht : P.underlying t = some (.slice E)) (ht2 : P.underlying t2 = some (.slice E)) (hi : P.info? E = some i) (hz : i.zero = some zv) (hsz : i.size = z) (hzc : zv.cells.size = z)
    [hF : Abs L] (hx : ev l x = some (.slice a 0 0)) (hy : ev l y = some (.slice a2 m c2)) [hr : HasRow L a2 ds] (hds : ds.length = m * z) [hone : Ones ds]
    (B : Nat) (hB : i.bytes = B) (hb : m * B ≤ 140737488355328) (hb2 : m ≤ 9223372036854775807) :
    OX W P l L (.call ⟨.builtin .append, #[x, y], #[t, t2]⟩) ty
      (fun u L' => ∃ a' c', u = .slice a' m c' ∧ L' = rowP E z a' m c' ds :: L) := by
  have h := OX_append (W := W) (P := P) (l := l) (ty := ty) (R := L) (E := E) (z := z) (a := a) (n := 0) (c := 0) (cs := []) ht ht2 hi hz hsz hzc hx hy hds hone.h (Has.of_reads hr.r.cons) (by rw [hB]; simpa using hb) (by simpa using hb2)
  simp only [Nat.zero_add, List.nil_append] at h
  exact OX.lands (fun m H => rowP_nil H) h
theorem OX_mu {α : Type} [DecidableEq α] {K : Keyed α} {x y z : Operand} {t kt et b : Nat} {m : List (α × Value)} {key : α} {v : Value} (hu : P.underlying t = some (.map kt et)) (hk : P.underlying kt = some K.desc)
    (hx : ev l x = some (.map (some b))) (hy : ev l y = some (K.val key)) (hz : ev l z = some v) [tm : TakeMap L K b m R] :
    OX W P l L (.mapUpdate t x y z) ty (fun _ L' => L' = mapP K b (mset m key v) :: R) :=
  OX.lands (fun m => Den_perm tm.perm m) (OX_mapUpdate hu hk hx hy hz)
theorem OX_mi {α : Type} [DecidableEq α] {K : Keyed α} {x y z : Operand} {t kt et b : Nat} {m : List (α × Value)} {key : α} {v : Value} (hu : P.underlying t = some (.map kt et)) (hk : P.underlying kt = some K.desc)
    (hx : ev l x = some (.map (some b))) (hy : ev l y = some (K.val key)) (hz : ev l z = some v) [tm : TakeMap L K b m R] :
    OX W P l L (.insert t x y z) ty (fun _ L' => L' = mapP K b (mset m key v) :: R) :=
  OX.lands (fun m => Den_perm tm.perm m) (OX_insert hu hk hx hy hz)
end
end Go.Proofs.Ytmigjpmadhebfaa
