/- Part 2 of the proof: lemmas that the walk of TopWindow needs. -/
import Derived.MapKept
import Derived.KernelRfl
import Derived.IntWalk
import Derived.Test.YtdhpjdhloaoepaaGreatProg
import Derived.Laws.Tables
import Derived.OpenShut
import Derived.ShutString
import Derived.ChangeOld
import Derived.Test.YtdhpjdhloaoepaaGreatPw1
set_option linter.unusedSimpArgs false
set_option linter.unusedVariables false
/- Maps: entries with keys of one kind, as a list of pairs; and small things of the walk. -/
namespace Go.Proofs.YtdhpjdhloaoepaaGreat
open Go

/-- What a map answers. -/
def mget {α β : Type} [DecidableEq α] (m : List (α × β)) (k : α) : Option β :=
  match m with
  | [] => none
  | (a, b) :: r => if k = a then some b else mget r k
def mset {α β : Type} [DecidableEq α] (m : List (α × β)) (k : α) (v : β) : List (α × β) :=
  match m with
  | [] => [(k, v)]
  | (a, b) :: r => if k = a then (k, v) :: r else (a, b) :: mset r k v
section
variable {α β : Type} [DecidableEq α]
theorem mget_mset (m : List (α × β)) (k j : α) (v : β) : mget (mset m k v) j = if j = k then some v else mget m j := by
  induction m with
  | nil => simp [mset, mget]
  | cons p r ih =>
    obtain ⟨a, b⟩ := p
    by_cases h : k = a
    · subst h
      by_cases hj : j = k
      · subst hj; simp [mset, mget]
      · simp [mset, mget, hj]
    · by_cases hj : j = k
      · subst hj; simp [mset, mget, h, ih]
      · by_cases ha : j = a
        · subst ha; simp [mset, mget, h, hj]
        · simp [mset, mget, h, ha, hj, ih]
end

/-- A kind of keys: how a key stands, and that the model tells keys apart. -/
structure Keyed (α : Type) [DecidableEq α] where
  val : α → Value
  desc : TypeDesc
  same : ∀ a b, Instr.sameNow desc (val a) (val b) = some (decide (a = b))
  check : ∀ (P : Program) (t : TypeId) (e : Bool) (n : Nat) (a : α) (w : World), P.underlying t = some desc → (Instr.checkKey e (n + 1) t (val a)).run P w = .ok () w
  bits : ∀ a n, Instr.sameBits n (val a) (val a) = true
def intK : Keyed Int where
  val := intV
  desc := .int .i64
  same a b := by simp [Instr.sameNow, intV]; rfl
  check P t e n a w h := by simp [Instr.checkKey, underlying, h, intV]
  bits a n := by simp [Instr.sameBits, intV]
def strK : Keyed ByteArray where
  val := Value.string
  desc := .string
  same a b := by
    have : (a == b) = decide (a = b) := by rw [beq_toListBytes, beqBytes]
    simp [Instr.sameNow, this]
  check P t e n a w h := by simp [Instr.checkKey, underlying, h]
  bits a n := by
    have : (a == a) = true := by rw [beq_toListBytes]; simp
    simp [Instr.sameBits, this]

theorem Keyed.inj {α : Type} [DecidableEq α] (K : Keyed α) {a b : α} (h : K.val a = K.val b) : a = b := by
  have h1 := K.same a b
  rw [h, K.same b b] at h1
  simpa using h1.symm
theorem mget_none_ne {α β : Type} [DecidableEq α] {k : α} : ∀ {m : List (α × β)}, mget m k = none → ∀ p ∈ m, p.1 ≠ k
  | [], _, p, hp, _ => by cases hp
  | (a, b) :: r, h, p, hp, e => by
    unfold mget at h
    split at h
    · cases h
    · rename_i hne
      rcases List.mem_cons.1 hp with rfl | hp
      · exact hne e.symm
      · exact mget_none_ne h p hp e
/-- A map of one's own. -/
def mapP {α : Type} [DecidableEq α] (K : Keyed α) (b : Nat) (m : List (α × Value)) : HProp := fun h =>
  ∃ es ck, pt b (.map es ck) h ∧ es.toList.map (fun e => (e.key, e.val)) = m.map (fun p => (K.val p.1, p.2)) ∧ Go.MapKept.Stamped es ck
/-- One may read it. -/
def mapF {α : Type} [DecidableEq α] (K : Keyed α) (b : Nat) (m : List (α × Value)) : Hp → Prop := fun h =>
  ∃ es ck, h b = some (.map es ck) ∧ es.toList.map (fun e => (e.key, e.val)) = m.map fun p => (K.val p.1, p.2)

section
variable {W : World} {P : Program} {l : Env} {ty : TypeId} {L R F : List HProp} {v : Value} {α : Type} [DecidableEq α] {K : Keyed α}
theorem mapF.up {b : Nat} {m : List (α × Value)} : Up (mapF K b m) := fun _ _ s ⟨es, ck, e, x⟩ => ⟨es, ck, s _ _ e, x⟩
theorem mapP_new {b : Nat} {h : Hp} (H : pt b (.map #[] 0) h) : mapP K b [] h := ⟨#[], 0, H, rfl, Go.MapKept.stamped_empty 0⟩
theorem Has.mapP {i b : Nat} {m : List (α × Value)} (hi : L[i]? = some (mapP K b m)) : Has W L (mapF K b m) := fun w hw => by
  have : pick i L = Go.Proofs.YtdhpjdhloaoepaaGreat.mapP K b m :: L.eraseIdx i := by simp [pick, hi]
  have hw := this ▸ hw.perm (pick_perm i L)
  obtain ⟨h1, ⟨es, ck, hp, hx, _⟩, s⟩ := Den_head hw.2.2.2
  exact ⟨es, ck, s _ _ (pt_get hp), hx⟩

theorem findNow_spec (k : α) : ∀ (es : List MapEntry) (m : List (α × Value)) (i : Nat), es.map (fun e => (e.key, e.val)) = m.map (fun p => (K.val p.1, p.2)) →
    ∃ r, Instr.findNow K.desc (K.val k) es i = some r ∧ r.map (·.2) = mget m k ∧
      (∀ v, (r = none → m.map (fun p => (K.val p.1, p.2)) ++ [(K.val k, v)] = (mset m k v).map (fun p => (K.val p.1, p.2))) ∧
        ∀ j u, r = some (j, u) → i ≤ j ∧ (es[j - i]?).map (·.key) = some (K.val k) ∧ (m.map (fun p => (K.val p.1, p.2))).set (j - i) (K.val k, v) = (mset m k v).map (fun p => (K.val p.1, p.2)))
  | [], m, i, h => by
    cases m with
    | nil => exact ⟨none, rfl, rfl, fun v => ⟨fun _ => rfl, fun _ _ h => by cases h⟩⟩
    | cons => cases h
  | e :: es, m, i, h => by
    cases m with
    | nil => cases h
    | cons p m =>
      obtain ⟨a, b⟩ := p
      simp only [List.map_cons, List.cons.injEq, Prod.mk.injEq] at h
      obtain ⟨⟨h1, h2⟩, h3⟩ := h
      simp only [Instr.findNow, h1, K.same]
      by_cases hk : k = a
      · subst hk
        simp only [decide_true]
        refine ⟨_, rfl, by simp [mget, h2], fun v => ⟨fun h => by simp at h, ?_⟩⟩
        intro j u hj
        simp at hj
        obtain ⟨rfl, rfl⟩ := hj
        simp [mset, h1]
      · simp only [hk, decide_false]
        obtain ⟨r, hr, hm, hall⟩ := findNow_spec k es m (i + 1) h3
        refine ⟨r, hr, by simp [mget, hk, hm], fun v => ⟨fun hn => ?_, ?_⟩⟩
        · have := (hall v).1 hn
          simp [mset, hk, ← this]
        · intro j u hj
          obtain ⟨g1, g2, g3⟩ := (hall v).2 j u hj
          have : j - i = (j - (i + 1)) + 1 := by omega
          rw [this]
          refine ⟨by omega, by simpa using g2, ?_⟩
          simp [mset, hk, ← g3]

theorem run_findKey {t : TypeId} (ht : P.underlying t = some K.desc) {es : List MapEntry} {k : α} {r : Option (Nat × Value)} (h : Instr.findNow K.desc (K.val k) es 0 = some r) (w : World) :
    (Instr.findKey t (K.val k) es).run P w = .ok r w := by
  simp [Instr.findKey, run_underlying ht, h]

theorem RD_lookup {x y : Operand} {t kt et b : Nat} {m : List (α × Value)} {k : α} {z : Value} (hu : P.underlying t = some (.map kt et)) (hk : P.underlying kt = some K.desc) (hz : ∀ w, (zeroValue et).run P w = .ok z w)
    (hx : ev l x = some (.map (some b))) (hy : ev l y = some (K.val k)) : RD P l (.lookup t x y false) ty (mapF K b m) ((mget m k).getD z) := fun ρ hρ w hR _ _ _ _ => by
  obtain ⟨es, ck, hb, hes⟩ := hR
  obtain ⟨r, hr, hm, _⟩ := findNow_spec k es.toList m 0 hes
  have hf := run_findKey hk hr w
  have hg : (getObj b).run P w = .ok (.map es ck) w := by simp only at hb; simp [getObj, Sem.run, hb]
  have hc := K.check P kt es.isEmpty 9999 k w hk
  rw [← hm]
  cases r with
  | none => simp [execOp, hρ x _ hx, hρ y _ hy, Instr.lookup, run_underlying hu, hg, hc, hf, hz]
  | some p => simp [execOp, hρ x _ hx, hρ y _ hy, Instr.lookup, run_underlying hu, hg, hc, hf]
theorem RD_lookup2 {x y : Operand} {t kt et b : Nat} {m : List (α × Value)} {k : α} {z : Value} (hu : P.underlying t = some (.map kt et)) (hk : P.underlying kt = some K.desc) (hz : ∀ w, (zeroValue et).run P w = .ok z w)
    (hx : ev l x = some (.map (some b))) (hy : ev l y = some (K.val k)) : RD P l (.lookup t x y true) ty (mapF K b m) (.tuple #[(mget m k).getD z, .bool (mget m k).isSome]) := fun ρ hρ w hR _ _ _ _ => by
  obtain ⟨es, ck, hb, hes⟩ := hR
  obtain ⟨r, hr, hm, _⟩ := findNow_spec k es.toList m 0 hes
  have hf := run_findKey hk hr w
  have hg : (getObj b).run P w = .ok (.map es ck) w := by simp only at hb; simp [getObj, Sem.run, hb]
  have hc := K.check P kt es.isEmpty 9999 k w hk
  rw [← hm]
  cases r with
  | none => simp [execOp, hρ x _ hx, hρ y _ hy, Instr.lookup, run_underlying hu, hg, hc, hf, hz]
  | some p => simp [execOp, hρ x _ hx, hρ y _ hy, Instr.lookup, run_underlying hu, hg, hc, hf]
/-- A nil map answers nothing. -/
theorem RD_lookupN {x y : Operand} {t kt et : Nat} {k : α} {z : Value} (hu : P.underlying t = some (.map kt et)) (hk : P.underlying kt = some K.desc) (hz : ∀ w, (zeroValue et).run P w = .ok z w)
    (hx : ev l x = some (.map none)) (hy : ev l y = some (K.val k)) : RD P l (.lookup t x y false) ty RU z := fun ρ hρ w _ _ _ _ _ => by
  have hf := run_findKey (K := K) (P := P) (es := []) (k := k) hk (r := none) rfl w
  have hc := K.check P kt true 9999 k w hk
  simp [execOp, hρ x _ hx, hρ y _ hy, Instr.lookup, run_underlying hu, hc, hf, hz]
theorem RD_lenM {x : Operand} {t kt et b : Nat} {m : List (α × Value)} (hu : P.underlying t = some (.map kt et)) (hx : ev l x = some (.map (some b))) : RD P l (.call ⟨.builtin .len, #[x], #[t]⟩) ty (mapF K b m) (.int .i64 m.length) := fun ρ hρ w hR _ _ _ _ => by
  obtain ⟨es, ck, hb, hes⟩ := hR
  have hg : (getObj b).run P w = .ok (.map es ck) w := by simp only at hb; simp [getObj, Sem.run, hb]
  have hl : es.size = m.length := by have := congrArg List.length hes; simpa using this
  simp [execOp, resolve, hρ x _ hx, invoke, builtin, Builtin.len_, run_underlying hu, hg, goInt, hl]

theorem run_mapUpdate {t kt et b : Nat} {m : List (α × Value)} {k : α} {v : Value} (hu : P.underlying t = some (.map kt et)) (hk : P.underlying kt = some K.desc) {w : World} (hw : Sat W (mapP K b m :: R) w) :
    ∃ w', (Instr.mapUpdate t (.map (some b)) (K.val k) v).run P w = .ok () w' ∧ Sat W (mapP K b (mset m k v) :: R) w' := by
  obtain ⟨h1, h2, hd, he, ⟨es, ck, hp, hes, hst⟩, hr⟩ := hw.2.2.2
  have hw' : Sat W (pt b (.map es ck) :: R) w := ⟨hw.1, hw.2.1, hw.2.2.1, h1, h2, hd, he, hp, hr⟩
  have hb := hw'.get
  have hg : (getObj b).run P w = .ok (.map es ck) w := by simp [getObj, Sem.run, hb]
  have hset : ∀ o w, Sat W (pt b (.map es ck) :: R) w → (setObj b o).run P w = .ok () { w with heap := w.heap.setIfInBounds b o } := fun o w hw => by simp [setObj, Sem.run, hw.get]
  obtain ⟨r, hrr, hmg, hall⟩ := findNow_spec k es.toList m 0 hes
  have hf := run_findKey hk hrr w
  have hc := K.check P kt false 9999 k w hk
  have fin : ∀ es' ck', Go.MapKept.Stamped es' ck' → es'.toList.map (fun e => (e.key, e.val)) = (mset m k v).map (fun p => (K.val p.1, p.2)) → Sat W (mapP K b (mset m k v) :: R) { w with heap := w.heap.setIfInBounds b (.map es' ck') } := fun es' ck' hs' h =>
    (hw'.setObj (o' := .map es' ck')).imp fun q ⟨q1, q2, qd, qe, qp, qr⟩ => ⟨q1, q2, qd, qe, ⟨es', ck', qp, h, hs'⟩, qr⟩
  cases r with
  | none =>
    have hns : ∀ x ∈ es.toList, x.key ≠ K.val k := fun x hx e => by
      have h1 : (x.key, x.val) ∈ m.map (fun p => (K.val p.1, p.2)) := hes ▸ List.mem_map.2 ⟨x, hx, rfl⟩
      obtain ⟨p, hp, hpe⟩ := List.mem_map.1 h1
      have h2 : K.val p.1 = K.val k := (congrArg Prod.fst hpe).trans e
      exact mget_none_ne hmg.symm p hp (K.inj h2)
    refine ⟨_, ?_, fin (es.push { key := K.val k, val := v, born := ck }) (ck + 1) (Go.MapKept.stamped_push hst hns) ?_⟩
    · simp [Instr.mapUpdate, run_underlying hu, hg, hc, hf, hset _ w hw']
    · have := (hall v).1 rfl
      simp [hes, this]
  | some p =>
    obtain ⟨j, u⟩ := p
    obtain ⟨_, g2, g3⟩ := (hall v).2 j u rfl
    simp only [Nat.sub_zero] at g2 g3
    have hkey : ((es[j]?).map (·.key)).getD (K.val k) = K.val k := by
      have : (es[j]?).map (·.key) = some (K.val k) := by simpa using g2
      rw [this]; rfl
    refine ⟨_, ?_, fin (es.modify j fun e => { e with key := K.val k, val := v }) ck (Go.MapKept.stamped_modify hst j _ (fun _ _ => rfl) fun e _ he => by rw [Array.getElem?_toList, he] at g2; exact (Option.some.inj g2).symm) ?_⟩
    · simp [Instr.mapUpdate, run_underlying hu, hg, hc, hf, hkey, Instr.keyThatStays, K.bits, hset _ w hw']
    · rw [← g3, ← hes]
      apply List.ext_getElem?
      intro i
      simp only [List.getElem?_map, Array.getElem?_toList, Array.getElem?_modify, List.getElem?_set]
      by_cases hij : j = i
      · subst hij
        have hj : j < es.size := by
          rcases Nat.lt_or_ge j es.size with h | h
          · exact h
          · simp [Array.getElem?_eq_none h] at g2
        simp [hj]
      · simp [hij]
theorem OX_mapUpdate {x y z : Operand} {t kt et b : Nat} {m : List (α × Value)} {k : α} {v : Value} (hu : P.underlying t = some (.map kt et)) (hk : P.underlying kt = some K.desc)
    (hx : ev l x = some (.map (some b))) (hy : ev l y = some (K.val k)) (hz : ev l z = some v) :
    OX W P l (mapP K b m :: R) (.mapUpdate t x y z) ty (fun _ L' => L' = mapP K b (mset m k v) :: R) := fun ρ hρ w hw _ _ _ _ => by
  obtain ⟨w', hr, hS⟩ := run_mapUpdate (k := k) (v := v) hu hk hw
  exact ⟨.skip, w', undef, _, by simp [execOp, hρ x _ hx, hρ y _ hy, hρ z _ hz, hr], .inr ⟨rfl, rfl⟩, rfl, hS⟩
theorem OX_insert {x y z : Operand} {t kt et b : Nat} {m : List (α × Value)} {k : α} {v : Value} (hu : P.underlying t = some (.map kt et)) (hk : P.underlying kt = some K.desc)
    (hx : ev l x = some (.map (some b))) (hy : ev l y = some (K.val k)) (hz : ev l z = some v) :
    OX W P l (mapP K b m :: R) (.insert t x y z) ty (fun _ L' => L' = mapP K b (mset m k v) :: R) := fun ρ hρ w hw _ _ _ _ => by
  obtain ⟨w', hr, hS⟩ := run_mapUpdate (k := k) (v := v) hu hk hw
  exact ⟨.skip, w', undef, _, by simp [execOp, hρ x _ hx, hρ y _ hy, hρ z _ hz, hr], .inr ⟨rfl, rfl⟩, rfl, hS⟩
end
end Go.Proofs.YtdhpjdhloaoepaaGreat

/- Finding a block in a list of blocks: by instances. -/
namespace Go.Proofs.YtdhpjdhloaoepaaGreat
open Go

class TakePt (L : List HProp) (b : Nat) (o : outParam Obj) (R : outParam (List HProp)) : Prop where
  perm : L.Perm (pt b o :: R)
instance (priority := 2000) TakePt.head {b : Nat} {o : Obj} {R : List HProp} : TakePt (pt b o :: R) b o R := ⟨.refl _⟩
instance TakePt.tail {A : HProp} {L R : List HProp} {b : Nat} {o : Obj} [h : TakePt L b o R] : TakePt (A :: L) b o (A :: R) := ⟨(h.perm.cons A).trans (.swap _ _ _)⟩
class TakeRow (L : List HProp) (a : Option Addr) (E z n c : outParam Nat) (cs : outParam (List Value)) (R : outParam (List HProp)) : Prop where
  perm : L.Perm (rowP E z a n c cs :: R)
instance (priority := 2000) TakeRow.head {E z n c : Nat} {a : Option Addr} {cs : List Value} {R : List HProp} : TakeRow (rowP E z a n c cs :: R) a E z n c cs R := ⟨.refl _⟩
instance TakeRow.tail {A : HProp} {L R : List HProp} {E z n c : Nat} {a : Option Addr} {cs : List Value} [h : TakeRow L a E z n c cs R] : TakeRow (A :: L) a E z n c cs (A :: R) := ⟨(h.perm.cons A).trans (.swap _ _ _)⟩
class TakeMap {α : Type} [DecidableEq α] (L : List HProp) (K : Keyed α) (b : Nat) (m : outParam (List (α × Value))) (R : outParam (List HProp)) : Prop where
  perm : L.Perm (mapP K b m :: R)
instance (priority := 2000) TakeMap.head {α : Type} [DecidableEq α] {K : Keyed α} {b : Nat} {m : List (α × Value)} {R : List HProp} : TakeMap (mapP K b m :: R) K b m R := ⟨.refl _⟩
instance TakeMap.tail {α : Type} [DecidableEq α] {K : Keyed α} {A : HProp} {L R : List HProp} {b : Nat} {m : List (α × Value)} [h : TakeMap L K b m R] : TakeMap (A :: L) K b m (A :: R) := ⟨(h.perm.cons A).trans (.swap _ _ _)⟩
/-- An object of a kind I, by its key; what it holds. -/
def At {κ σ : Type} (I : κ → σ → HProp) (k : κ) (s : σ) : HProp := I k s
class TakeAt {κ σ : Type} (L : List HProp) (I : κ → σ → HProp) (k : κ) (s : outParam σ) (R : outParam (List HProp)) : Prop where
  perm : L.Perm (At I k s :: R)
instance (priority := 2000) TakeAt.head {κ σ : Type} {I : κ → σ → HProp} {k : κ} {s : σ} {R : List HProp} : TakeAt (At I k s :: R) I k s R := ⟨.refl _⟩
instance TakeAt.tail {κ σ : Type} {I : κ → σ → HProp} {k : κ} {s : σ} {A : HProp} {L R : List HProp} [h : TakeAt L I k s R] : TakeAt (A :: L) I k s (A :: R) := ⟨(h.perm.cons A).trans (.swap _ _ _)⟩

/-- One may read a row. -/
class HasRow (L : List HProp) (a : Option Addr) (cs : outParam (List Value)) : Prop where
  r : Reads L (rowR a cs)
instance HasRow.cons {A : HProp} {L : List HProp} {a : Option Addr} {cs : List Value} [h : HasRow L a cs] : HasRow (A :: L) a cs := ⟨h.r.cons⟩
instance (priority := 2000) HasRow.row {E z n c : Nat} {L : List HProp} {a : Option Addr} {cs : List Value} : HasRow (rowP E z a n c cs :: L) a cs := ⟨.head rowR.up fun _ H => rowP_reads H⟩
instance (priority := 2000) HasRow.pt {b E : Nat} {L : List HProp} {cs : List Value} {fz : Nat × Nat} : HasRow (pt b (.cells cs.toArray E fz) :: L) (some ⟨b, 0, none⟩) cs :=
  ⟨.head rowR.up fun _ H j v e => ⟨_, _, _, pt_get H, by simpa using e⟩⟩

instance (priority := 50) HasRow.nil {L : List HProp} : HasRow L none [] := ⟨⟨rowR.up, fun h _ => rowR_nil h⟩⟩

/-- These blocks come to those. -/
def Lands (L T : List HProp) : Prop := ∀ m, Den L m → Den T m
/-- One atom, whole. -/
class TakeA (L : List HProp) (A : HProp) (R : outParam (List HProp)) : Prop where
  perm : L.Perm (A :: R)
instance (priority := 2000) TakeA.head {A : HProp} {R : List HProp} : TakeA (A :: R) A R := ⟨.refl _⟩
instance TakeA.tail {A B : HProp} {L R : List HProp} [h : TakeA L A R] : TakeA (B :: L) A (B :: R) := ⟨(h.perm.cons B).trans (.swap _ _ _)⟩
class Fin (L T : List HProp) : Prop where
  h : Lands L T
instance (priority := 3000) Fin.refl {L : List HProp} : Fin L L := ⟨fun _ H => H⟩
instance (priority := 2000) Fin.take {A : HProp} {L R T : List HProp} [t : TakeA L A R] [f : Fin R T] : Fin L (A :: T) :=
  ⟨fun m H => by obtain ⟨h1, h2, d, e, a, r⟩ := Den_perm t.perm m H; exact ⟨h1, h2, d, e, a, f.h _ r⟩⟩
instance Fin.drop {A : HProp} {L T : List HProp} [h : Abs L] [f : Fin L T] : Fin (A :: L) T := ⟨fun m H => f.h m (h.h A m H)⟩

theorem Lands.fin {L T : List HProp} [f : Fin L T] : Lands L T := f.h
theorem Lands.trans {L M T : List HProp} (h : Lands L M) (k : Lands M T) : Lands L T := fun m H => k m (h m H)
theorem Lands.cons {A : HProp} {L T : List HProp} (h : Lands L T) : Lands (A :: L) (A :: T) := fun _ ⟨h1, h2, d, e, a, r⟩ => ⟨h1, h2, d, e, a, h _ r⟩

section
variable {W : World} {P : Program} {n : Nat} {k : Kont} {l : Env} {c : Code} {ops : Array Oper} {os : List Oper} {r : Ord} {Ts : Facts} {f : FuncId} {args : Array Value} {KK : Value → List HProp → Prop} {L R T : List HProp} {ty : TypeId} {v : Value}
theorem SC.lands (h : Lands L T) (g : SC W P n c k l T) : SC W P n c k l L := g.imp h
theorem SN.lands (h : Lands L T) (g : SN W P n k l T) : SN W P n k l L := g.imp h
theorem SR.lands (h : Lands L T) (g : SR W P n ops os k l T) : SR W P n ops os k l L := g.imp h
theorem SQ.lands (h : Lands L T) (g : SQ W P n ops r Ts k l T) : SQ W P n ops r Ts k l L := g.imp h
theorem CallsK.lands (h : Lands L T) (g : CallsK W P f args T KK) : CallsK W P f args L KK := g.pre h
theorem OX.lands {op : Op} {K : Value → List HProp → Prop} (h : Lands L T) (g : OX W P l T op ty K) : OX W P l L op ty K := fun ρ hρ w hw => g ρ hρ w (hw.imp h)
theorem OX.imp {op : Op} {K K' : Value → List HProp → Prop} (g : OX W P l L op ty K) (h : ∀ v M, K v M → K' v M) : OX W P l L op ty K' := fun ρ hρ w hw d p a q =>
  let ⟨nx, w', v, L', h1, h2, h3, h4⟩ := g ρ hρ w hw d p a q
  ⟨nx, w', v, L', h1, h2, h _ _ h3, h4⟩

theorem Has.lands {Q : Hp → Prop} (h : Lands L T) (g : Has W T Q) : Has W L Q := fun w hw => g w (hw.imp h)
theorem Keeps.lands {j : Nat} (h : Lands L T) : ∀ {Ts : Facts}, Keeps W ops j T Ts → Keeps W ops j L Ts
  | [], _ => trivial
  | (q, _) :: _, k => ⟨by have := k.1; cases e : waits ops j q <;> simp only [e, cond_true, cond_false] at this ⊢; exact this.lands h, Keeps.lands h k.2⟩
theorem CallsK.at {κ σ : Type} {I : κ → σ → HProp} {key : κ} {s : σ} [t : TakeAt L I key s R] (g : CallsK W P f args (At I key s :: R) KK) : CallsK W P f args L KK := g.pre fun m => Den_perm t.perm m
theorem Has.pt {b : Nat} {o : Obj} {Q : Hp → Prop} [t : TakePt L b o R] (hQ : ∀ h : Hp, h b = some o → Q h) : Has W L Q := fun w hw => hQ _ (hw.perm t.perm).get
theorem Has.ce {b off : Nat} {cs : List Value} {E : TypeId} {fz : Nat × Nat} [t : TakePt L b (.cells cs.toArray E fz) R] (hv : cs[off]? = some v) : Has W L (cellR b off v) :=
  Has.pt fun _ e => ⟨_, _, _, e, by simpa using hv⟩
theorem Has.ces {b off : Nat} {cs vs : List Value} {E : TypeId} {fz : Nat × Nat} [t : TakePt L b (.cells cs.toArray E fz) R] (hv : ∀ j v, vs[j]? = some v → cs[off + j]? = some v) : Has W L (cellsR b off vs) :=
  Has.pt fun _ e j v h => ⟨_, _, _, e, by simpa using hv j v h⟩
theorem Has.wh {b : Nat} {cs : List Value} {E : TypeId} {fz : Nat × Nat} [t : TakePt L b (.cells cs.toArray E fz) R] : Has W L (cellsR b 0 cs) :=
  Has.ces fun j v h => by simpa using h
theorem Has.ro {a : Option Addr} {cs : List Value} [h : HasRow L a cs] : Has W L (rowR a cs) := .of_reads h.r
theorem Has.ma {α : Type} [DecidableEq α] {K : Keyed α} {b : Nat} {m : List (α × Value)} [t : TakeMap L K b m R] : Has W L (mapF K b m) := fun w hw => Has.mapP (i := 0) (L := Go.Proofs.YtdhpjdhloaoepaaGreat.mapP K b m :: R) rfl w (hw.perm t.perm)

/-! values of one cell -/
class One (v : Value) : Prop where
  one : v.oneCell' = true
  cells : v.cells = #[v]
instance {k : IntKind} {n : Int} : One (.int k n) := ⟨rfl, rfl⟩
instance {b : Bool} : One (.bool b) := ⟨rfl, rfl⟩
instance {s : ByteArray} : One (.string s) := ⟨rfl, rfl⟩
instance {p : Option Addr} : One (.pointer p) := ⟨rfl, rfl⟩
instance {p : Option Addr} {n c : Nat} : One (.slice p n c) := ⟨rfl, rfl⟩
instance {p : Option Nat} : One (.map p) := ⟨rfl, rfl⟩
instance {c : UInt8} : One (byteV c) := ⟨rfl, rfl⟩
instance {n : Int} : One (intV n) := ⟨rfl, rfl⟩
class Ones (ds : List Value) : Prop where
  h : ∀ v ∈ ds, v.oneCell' = true
instance : Ones [] := ⟨by simp⟩
instance {v : Value} {ds : List Value} [a : One v] [b : Ones ds] : Ones (v :: ds) := ⟨fun u hu => by rcases List.mem_cons.1 hu with rfl | h <;> first | exact a.one | exact b.h _ h⟩
instance {a b : List Value} [h : Ones a] [k : Ones b] : Ones (a ++ b) := ⟨fun u hu => by rcases List.mem_append.1 hu with x | x <;> first | exact h.h u x | exact k.h u x⟩
instance {α : Type} {f : α → Value} {l : List α} [h : ∀ x, One (f x)] : Ones (l.map f) := ⟨by simp only [List.mem_map]; rintro u ⟨x, _, rfl⟩; exact (h x).one⟩
instance {α : Type} {f : α → List Value} {l : List α} [h : ∀ x, Ones (f x)] : Ones (l.flatMap f) := ⟨by simp only [List.mem_flatMap]; rintro u ⟨x, _, hx⟩; exact (h x).h u hx⟩

/-! stores, by place -/
class SetAt (cs : List Value) (i : Nat) (v : Value) (cs' : outParam (List Value)) : Prop where
  eq : cs.set i v = cs'
  lt : i < cs.length
instance SetAt.zero {x v : Value} {r : List Value} : SetAt (x :: r) 0 v (v :: r) := ⟨rfl, by simp⟩
instance SetAt.succ {x v : Value} {r r' : List Value} {i : Nat} [h : SetAt r i v r'] : SetAt (x :: r) (i + 1) v (x :: r') := ⟨by simp [h.eq], by have := h.lt; simp; omega⟩
theorem OX_st {x y : Operand} {t b off : Nat} {cs cs' : List Value} {T : TypeId} {v : Value} (hz : ∀ w, (sizeOf t).run P w = .ok 1 w)
    (hx : ev l x = some (.pointer (some ⟨b, off, none⟩))) (hy : ev l y = some v) [ho : One v] [tp : TakePt L b (.cells cs.toArray T) R] [s : SetAt cs off v cs'] :
    OX W P l L (.store t x y) ty (fun _ L' => L' = pt b (.cells cs'.toArray T) :: R) := by
  have hlt : Nat.blt off cs.length = true := Nat.ble_eq_true_of_le s.lt
  exact (OX.lands (fun m => Den_perm tp.perm m) (OX_store hz hx hy ho.one ho.cells hlt)).imp fun _ _ e => by rw [e, s.eq]
theorem OX_stRow {x y : Operand} {t E z n c j : Nat} {a : Option Addr} {cs : List Value} {v : Value} (hz : ∀ w, (sizeOf t).run P w = .ok 1 w)
    (hx : ev l x = some (.pointer (some (elA a j)))) (hy : ev l y = some v) [ho : One v] [tp : TakeRow L a E z n c cs R] (hlt : j < cs.length) :
    OX W P l L (.store t x y) ty (fun _ L' => L' = rowP E z a n c (cs.set j v) :: R) :=
  OX.lands (fun m => Den_perm tp.perm m) (OX_storeRow hz hx hy ho.one ho.cells hlt)
theorem OX_app {x y : Operand} {t t2 E n c m c2 : Nat} (z : Nat) {a a2 : Option Addr} {cs ds : List Value} {i : TypeInfo} {zv : Value}
    (ht : P.underlying t = some (.slice E)) (ht2 : P.underlying t2 = some (.slice E)) (hi : P.info? E = some i) (hz : i.zero = some zv) (hsz : i.size = z) (hzc : zv.cells.size = z)
    [hF : Abs R] (hx : ev l x = some (.slice a n c)) (hy : ev l y = some (.slice a2 m c2)) [tp : TakeRow L a E z n c cs R] [hr : HasRow L a2 ds] (hds : ds.length = m * z) [hone : Ones ds]
    (B : Nat) (hB : i.bytes = B) (hb : (n + m) * B ≤ 140737488355328) (hb2 : n + m ≤ 9223372036854775807) :
    OX W P l L (.call ⟨.builtin .append, #[x, y], #[t, t2]⟩) ty
      (fun u L' => ∃ a' c', u = .slice a' (n + m) c' ∧ L' = rowP E z a' (n + m) c' (cs ++ ds) :: R) :=
  OX.lands (fun m => Den_perm tp.perm m) (OX_append ht ht2 hi hz hsz hzc hx hy hds hone.h (Has.of_reads (hr.r.perm tp.perm)) (hB ▸ hb) hb2)
/-- What is appended to may be another's row without room (s[:0:0]), or none. -/
theorem OX_app0 {x y : Operand} {t t2 E m c2 : Nat} (z : Nat) {a a2 : Option Addr} {ds : List Value} {i : TypeInfo} {zv : Value}
    (ht : P.underlying t = some (.slice E)) (ht2 : P.underlying t2 = some (.slice E)) (hi : P.info? E = some i) (hz : i.zero = some zv) (hsz : i.size = z) (hzc : zv.cells.size = z)
    [hF : Abs L] (hx : ev l x = some (.slice a 0 0)) (hy : ev l y = some (.slice a2 m c2)) [hr : HasRow L a2 ds] (hds : ds.length = m * z) [hone : Ones ds]
    (B : Nat) (hB : i.bytes = B) (hb : m * B ≤ 140737488355328) (hb2 : m ≤ 9223372036854775807) :
    OX W P l L (.call ⟨.builtin .append, #[x, y], #[t, t2]⟩) ty
      (fun u L' => ∃ a' c', u = .slice a' m c' ∧ L' = rowP E z a' m c' ds :: L) := by
  have h := OX_append (W := W) (P := P) (l := l) (ty := ty) (R := L) (E := E) (z := z) (a := a) (n := 0) (c := 0) (cs := []) ht ht2 hi hz hsz hzc hx hy hds hone.h (Has.of_reads hr.r.cons) (by rw [hB]; simpa using hb) (by simpa using hb2)
  simp only [Nat.zero_add, List.nil_append] at h
  exact OX.lands (fun m H => rowP_nil H) h
theorem OX_mu {α : Type} [DecidableEq α] {K : Keyed α} {x y z : Operand} {t kt et b : Nat} {m : List (α × Value)} {key : α} {v : Value} (hu : P.underlying t = some (.map kt et)) (hk : P.underlying kt = some K.desc)
    (hx : ev l x = some (.map (some b))) (hy : ev l y = some (K.val key)) (hz : ev l z = some v) [tm : TakeMap L K b m R] :
    OX W P l L (.mapUpdate t x y z) ty (fun _ L' => L' = mapP K b (mset m key v) :: R) :=
  OX.lands (fun m => Den_perm tm.perm m) (OX_mapUpdate hu hk hx hy hz)
theorem OX_mi {α : Type} [DecidableEq α] {K : Keyed α} {x y z : Operand} {t kt et b : Nat} {m : List (α × Value)} {key : α} {v : Value} (hu : P.underlying t = some (.map kt et)) (hk : P.underlying kt = some K.desc)
    (hx : ev l x = some (.map (some b))) (hy : ev l y = some (K.val key)) (hz : ev l z = some v) [tm : TakeMap L K b m R] :
    OX W P l L (.insert t x y z) ty (fun _ L' => L' = mapP K b (mset m key v) :: R) :=
  OX.lands (fun m => Den_perm tm.perm m) (OX_insert hu hk hx hy hz)
end
end Go.Proofs.YtdhpjdhloaoepaaGreat

/- Slice literals, cut slices, and what stands at a function's end. -/
namespace Go.Proofs.YtdhpjdhloaoepaaGreat
open Go

/-- Parts from place i to the end, each of z cells. -/
inductive Dense (z : Nat) : Nat → Nat → List (Nat × Value) → List Value → Prop where
  | nil {i : Nat} : Dense z i i [] []
  | cons {i len : Nat} {v : Value} {c cs : List Value} {ps : List (Nat × Value)} (hc : v.cells = c.toArray) (hz : c.length = z) (r : Dense z (i + 1) len ps cs) : Dense z i len ((i, v) :: ps) (c ++ cs)
inductive Dense1 : Nat → Nat → List (Nat × Value) → List Value → Prop where
  | nil {i : Nat} : Dense1 i i [] []
  | cons {i len : Nat} {v : Value} {cs : List Value} {ps : List (Nat × Value)} (hc : v.cells = #[v]) (r : Dense1 (i + 1) len ps cs) : Dense1 i len ((i, v) :: ps) (v :: cs)
theorem Dense1.dense : ∀ {i len : Nat} {ps : List (Nat × Value)} {cs : List Value}, Dense1 i len ps cs → Dense 1 i len ps cs
  | _, _, _, _, .nil => .nil
  | _, _, _, _, .cons hc r => .cons (c := [_]) hc rfl r.dense
theorem foldl_set_cells (c : List Value) : ∀ (j : Nat) (xs : Array Value) (off : Nat), (c.zipIdx j).foldl (fun cs (p : Value × Nat) => cs.setIfInBounds (off + p.2) p.1) xs = (setL xs.toList (off + j) c).toArray := by
  induction c with
  | nil => intro j xs off; simp [setL]
  | cons v r ih =>
    intro j xs off
    simp only [List.zipIdx_cons, List.foldl_cons, ih, setL]
    simp [Nat.add_assoc]
theorem fill_dense {z : Nat} : ∀ {i len : Nat} {ps : List (Nat × Value)} {cs : List Value}, Dense z i len ps cs → ∀ (pre rest : List Value), pre.length = i * z → rest.length = (len - i) * z →
    Instr.fill (fun i => some (i * z, z)) (pre ++ rest).toArray ps = some (pre ++ cs).toArray ∧ i ≤ len
  | i, _, _, _, .nil, pre, rest, _, hr => by
    have : rest = [] := by simpa using hr
    subst this
    exact ⟨rfl, Nat.le_refl _⟩
  | i, len, _, _, .cons (v := v) (c := c) (cs := cs) (ps := ps) hc hz r, pre, rest, hp, hr => by
    have hlt : i < len ∨ len ≤ i := Nat.lt_or_ge i len
    have hle : i + 1 ≤ len := by
      have := fill_dense r (List.replicate ((i + 1) * z) default) (List.replicate ((len - (i + 1)) * z) default) (by simp) (by simp)
      exact this.2
    have hrz : rest.length = z + (len - (i + 1)) * z := by
      rw [hr, show len - i = (len - (i + 1)) + 1 from by omega, Nat.add_mul]; omega
    have hstep : (v.cells.zipIdx.foldl (fun cs (p : Value × Nat) => cs.setIfInBounds (i * z + p.2) p.1) (pre ++ rest).toArray) = (pre ++ c ++ rest.drop z).toArray := by
      rw [hc]
      have := foldl_set_cells c 0 (pre ++ rest).toArray (i * z)
      have h2 : (c.toArray.zipIdx.foldl (fun cs (p : Value × Nat) => cs.setIfInBounds (i * z + p.2) p.1) (pre ++ rest).toArray) = (c.zipIdx 0).foldl (fun cs (p : Value × Nat) => cs.setIfInBounds (i * z + p.2) p.1) (pre ++ rest).toArray := by
        rw [← Array.foldl_toList]; simp
      rw [h2, this]
      congr 1
      apply List.ext_getElem?
      intro j
      rw [setL_get _ _ _ _ (by simp; omega)]
      simp only [Nat.add_zero]
      by_cases h1 : i * z ≤ j ∧ j < i * z + c.length
      · rw [if_pos h1, List.append_assoc, List.getElem?_append_right (by omega), List.getElem?_append_left (by omega), hp]
      · rw [if_neg h1]
        by_cases h3 : j < i * z
        · rw [List.append_assoc, List.getElem?_append_left (by omega), List.getElem?_append_left (by omega)]
        · have e1 : pre.length ≤ j := by omega
          have e2 : (pre ++ c).length ≤ j := by rw [List.length_append]; omega
          rw [List.getElem?_append_right e1, List.getElem?_append_right e2, List.getElem?_drop, List.length_append]
          congr 1; omega
    have ih := fill_dense r (pre ++ c) (rest.drop z) (by simp [hp, hz, Nat.add_mul]) (by simp [hrz])
    refine ⟨?_, by omega⟩
    have hsz : v.cells.size = z := by rw [hc]; simpa using hz
    simp only [Instr.fill]
    rw [if_neg (by
      simp only [hsz, List.size_toArray, List.length_append, hp, hrz, ne_eq, not_true_eq_false, decide_false, Bool.false_or, decide_eq_true_eq]
      omega)]
    rw [hstep]
    simpa using ih.1

section
variable {W : World} {P : Program} {n : Nat} {k : Kont} {l : Env} {c : Code} {ops : Array Oper} {os : List Oper} {r : Ord} {Ts : Facts} {L R T : List HProp} {ty : TypeId} {v : Value}
theorem OX_lit {t e len z : Nat} {parts : Array (Nat × Operand)} {ps : List (Nat × Value)} {cs : List Value} {ie : TypeInfo} {zv : Value}
    (hu : P.underlying t = some (.slice e)) (hie : P.info? e = some ie) (hz : ie.zero = some zv) (hs : ie.size = z) (hsmall : Nat.ble (len * z) (2 ^ 24) = true) (hpos : Nat.blt 0 (len * z) = true)
    (hp : EvL l parts.toList ps) (hd : Dense z 0 len ps cs) :
    OX W P l L (.buildSlice t len parts) ty (fun u L' => ∃ b, u = .slice (some ⟨b, 0, none⟩) len len ∧ L' = pt b (.cells cs.toArray e) :: L) := by
  have h1 := Nat.le_of_ble_eq_true hsmall
  have h2 : 0 < len * z := Nat.le_of_ble_eq_true hpos
  subst hs
  refine OX_buildSlice hu hie hz (by omega) (by omega) hp ?_
  have := (fill_dense hd [] ((List.range (len * ie.size)).map (zv.cells[· % zv.cells.size]!)) (by simp) (by simp)).1
  have e : (Array.range (len * ie.size)).map (zv.cells[· % zv.cells.size]!) = ([] ++ (List.range (len * ie.size)).map (zv.cells[· % zv.cells.size]!)).toArray := by
    apply Array.ext'; simp
  rw [e]; simpa using this
theorem OX_lit1 {t e len : Nat} {parts : Array (Nat × Operand)} {ps : List (Nat × Value)} {cs : List Value} {ie : TypeInfo} {zv : Value}
    (hu : P.underlying t = some (.slice e)) (hie : P.info? e = some ie) (hz : ie.zero = some zv) (hs : ie.size = 1) (hsmall : Nat.ble (len * 1) (2 ^ 24) = true) (hpos : Nat.blt 0 (len * 1) = true)
    (hp : EvL l parts.toList ps) (hd : Dense1 0 len ps cs) :
    OX W P l L (.buildSlice t len parts) ty (fun u L' => ∃ b, u = .slice (some ⟨b, 0, none⟩) len len ∧ L' = pt b (.cells cs.toArray e) :: L) :=
  OX_lit hu hie hz hs hsmall hpos hp hd.dense
theorem OX_mk {α : Type} [DecidableEq α] (K : Keyed α) {t : TypeId} : OX W P l L (.makeMap t none) ty (fun u L' => ∃ b, u = .map (some b) ∧ L' = mapP K b [] :: L) := fun ρ hρ w hw _ _ _ _ =>
  ⟨.value (.map (some w.heap.size)), { w with heap := w.heap.push (.map #[] 0) }, _, _, by simp [execOp, Instr.makeMap], .inl rfl, ⟨_, rfl, rfl⟩, (hw.new _).imp fun _ ⟨h1, h2, d, e, a, q⟩ => ⟨h1, h2, d, e, mapP_new a, q⟩⟩

/-! cuts -/
theorem add_zero' (p : Addr) : p.add 0 = p := rfl
theorem sBase_0 (a : Option Addr) (z m : Nat) : sBase a 0 z m = a := by
  unfold sBase; split
  · rfl
  · cases a <;> simp [add_zero']

theorem RD_cutH {x hi : Operand} {t e z m c : Nat} {a : Option Addr} {kh : IntKind} {ih : Int} (hs : ∀ w, (underlying t).run P w = .ok (.slice e) w) (hz : ∀ w, (sizeOf e).run P w = .ok z w)
    (hx : ev l x = some (.slice a m c)) (hh : ev l hi = some (.int kh ih)) (h0 : 0 ≤ ih) (h1 : ih ≤ c) : RD P l (.slice t x none (some hi) none) ty RU (.slice a ih.toNat c) := by
  have := RD_slice (P := P) (l := l) (ty := ty) (kl := .i64) (km := .i64) (im := c) hs hz hx (.inl ⟨rfl, rfl⟩) (.inr ⟨hi, rfl, hh⟩) (.inl ⟨rfl, rfl⟩) (Int.le_refl _) h0 h1 (Int.le_refl _)
  simpa [sBase_0] using this
theorem RD_cutL {x lo : Operand} {t e z m c : Nat} {a : Option Addr} {kl : IntKind} {il : Int} (hs : ∀ w, (underlying t).run P w = .ok (.slice e) w) (hz : ∀ w, (sizeOf e).run P w = .ok z w)
    (hx : ev l x = some (.slice a m c)) (hl : ev l lo = some (.int kl il)) (h0 : 0 ≤ il) (h1 : il ≤ m) (h2 : m ≤ c) : RD P l (.slice t x (some lo) none none) ty RU (.slice (sBase a il.toNat z c) (m - il.toNat) (c - il.toNat)) := by
  have := RD_slice (P := P) (l := l) (ty := ty) (kh := .i64) (km := .i64) (ih := m) (im := c) hs hz hx (.inr ⟨lo, rfl, hl⟩) (.inl ⟨rfl, rfl, rfl⟩) (.inl ⟨rfl, rfl⟩) h0 h1 (by omega) (Int.le_refl _)
  simpa using this
theorem RD_cutHM {x hi mx : Operand} {t e z m c : Nat} {a : Option Addr} {kh km : IntKind} {ih im : Int} (hs : ∀ w, (underlying t).run P w = .ok (.slice e) w) (hz : ∀ w, (sizeOf e).run P w = .ok z w)
    (hx : ev l x = some (.slice a m c)) (hh : ev l hi = some (.int kh ih)) (hm : ev l mx = some (.int km im)) (h0 : 0 ≤ ih) (h1 : ih ≤ im) (h2 : im ≤ c) : RD P l (.slice t x none (some hi) (some mx)) ty RU (.slice a ih.toNat im.toNat) := by
  have := RD_slice (P := P) (l := l) (ty := ty) (kl := .i64) hs hz hx (.inl ⟨rfl, rfl⟩) (.inr ⟨hi, rfl, hh⟩) (.inr ⟨mx, rfl, hm⟩) (Int.le_refl _) h0 h1 h2
  simpa [sBase_0] using this
theorem row_new (E z : Nat) (a : Option Addr) {L : List HProp} : Lands L (rowP E z a 0 0 [] :: L) := fun _ h => rowP_nil h
/-- A loop, by what holds at each round's head. -/
theorem SC_ind {X : Type} (C : X → Prop) (μ : X → Nat) (inv : X → Env) (I : X → List HProp) (x0 : X) (h0 : C x0) (hl : EnvLe (inv x0) l) (hL : Lands L (I x0))
    (body : ∀ x, C x → (∀ y, C y → μ y < μ x → SC W P n c (.loop c k) (inv y) (I y)) → SC W P n c (.loop c k) (inv x) (I x)) : SC W P n (.loop c) k l L := by
  have key : ∀ (m : Nat) x, μ x = m → C x → SC W P n c (.loop c k) (inv x) (I x) := by
    intro m
    induction m using Nat.strongRecOn with
    | _ m ih => exact fun x hm hx => body x hx fun y hy hlt => ih (μ y) (hm ▸ hlt) y rfl hy
  exact SC_loop ((SC.lands hL (key _ x0 rfl h0)).le hl)
theorem EnvLe.cons' {d : Nat} {v v' : Value} {l l' : Env} (h : look l' d = some v') (e : v' = v) (r : EnvLe l l') : EnvLe ((d, v) :: l) l' := .cons (e ▸ h) r
theorem ie {k : IntKind} {a b : Int} (h : a = b) : Value.int k a = Value.int k b := by rw [h]
theorem SC_again {l' : Env} {L' : List HProp} (h : SC W P n c (.loop c k) l' L') (hL : Lands L L') (hl : EnvLe l' l) : SN W P n (.loop c k) l L := SN_loop ((SC.lands hL h).le hl)
/-- An object is what its blocks are. -/
def Opens {κ σ X : Type} (I : κ → σ → HProp) (key : κ) (s : σ) (C : X → Prop) (B : X → List HProp → List HProp) : Prop :=
  ∀ R m, Den (At I key s :: R) m → ∃ x, C x ∧ Den (B x R) m
section
variable {κ σ X : Type} {I : κ → σ → HProp} {key : κ} {s : σ} {C : X → Prop} {B : X → List HProp → List HProp}
theorem SC.opn (o : Opens I key s C B) [t : TakeAt L I key s R] (h : ∀ x, C x → SC W P n c k l (B x R)) : SC W P n c k l L := fun a w ha hw => by
  obtain ⟨x, hx, hd⟩ := o R _ (Den_perm t.perm _ hw.2.2.2)
  exact h x hx a w ha ⟨hw.1, hw.2.1, hw.2.2.1, hd⟩
theorem SR.opn (o : Opens I key s C B) [t : TakeAt L I key s R] (h : ∀ x, C x → SR W P n ops os k l (B x R)) : SR W P n ops os k l L := fun a w ha hw => by
  obtain ⟨x, hx, hd⟩ := o R _ (Den_perm t.perm _ hw.2.2.2)
  exact h x hx a w ha ⟨hw.1, hw.2.1, hw.2.2.1, hd⟩
theorem SQ.opn (o : Opens I key s C B) [t : TakeAt L I key s R] (h : ∀ x, C x → SQ W P n ops r Ts k l (B x R)) : SQ W P n ops r Ts k l L := fun hs li f hc a w ha hw => by
  obtain ⟨x, hx, hd⟩ := o R _ (Den_perm t.perm _ hw.2.2.2)
  exact h x hx hs li f hc a w ha ⟨hw.1, hw.2.1, hw.2.2.1, hd⟩
theorem SN.opn (o : Opens I key s C B) [t : TakeAt L I key s R] (h : ∀ x, C x → SN W P n k l (B x R)) : SN W P n k l L := fun a w ha hw => by
  obtain ⟨x, hx, hd⟩ := o R _ (Den_perm t.perm _ hw.2.2.2)
  exact h x hx a w ha ⟨hw.1, hw.2.1, hw.2.2.1, hd⟩
theorem CallsK.opn {f : FuncId} {args : Array Value} {K : Value → List HProp → Prop} (o : Opens I key s C B) [t : TakeAt L I key s R] (h : ∀ x, C x → CallsK W P f args (B x R) K) : CallsK W P f args L K := fun w hw => by
  obtain ⟨x, hx, hd⟩ := o R _ (Den_perm t.perm _ hw.2.2.2)
  exact h x hx w ⟨hw.1, hw.2.1, hw.2.2.1, hd⟩
end
/-- []byte("constant"): a row, marked. -/
theorem OX_mark {x : Operand} {t e b m c2 E : Nat} {cs : List Value} (hs : P.underlying t = some (.slice e)) (he : P.underlying e = some (.int .u8)) (hx : ev l x = some (.slice (some ⟨b, 0, none⟩) m c2)) [tp : TakePt L b (.cells cs.toArray E) R] :
    OX W P l L (.convert t t x) ty (fun u L' => ∃ fz : Nat × Nat, u = .slice (some ⟨b, 0, none⟩) m c2 ∧ L' = pt b (.cells cs.toArray E fz) :: R) := fun ρ hρ w hw _ _ _ _ => by
  have H := hw.perm tp.perm
  have hb := H.get
  have hsh : w.shape? b = some (E, cs.length) := by simp [World.shape?, hb]
  refine ⟨_, w.freeze ⟨b, cs.length, none⟩ 1, .slice (some ⟨b, 0, none⟩) m c2, _, ?_, .inl rfl, ⟨_, rfl, rfl⟩, H.turn (o' := .cells cs.toArray E (cs.length, cs.length + 1)) rfl rfl rfl fun k => ?_⟩
  · simp [execOp, hρ x _ hx, convert, run_underlying hs, run_underlying he, markStringish, hsh, Result.andThen]
  · simp only [World.freeze]
    rw [if_neg (by decide), Array.getElem?_modify]
    by_cases e : k = b
    · subst e; simp [hb]
    · rw [if_neg (fun x => e x.symm), if_neg e]
/-- An index below a length that is itself below the row's. -/
theorem RD_ix8 {x y : Operand} {t e m c2 z : Nat} {kk : IntKind} {i : Int} {a : Option Addr} {cs : List Value} (hs : ∀ w, (underlying t).run P w = .ok (.slice e) w) (hz : ∀ w, (sizeOf e).run P w = .ok (z + 1) w)
    (hx : ev l x = some (.slice a m c2)) (hy : ev l y = some (.int kk i)) (hc : 0 < cs.length) (h0 : 0 ≤ i) (h1 : i < m) :
    RD P l (.indexAddr t x y) ty (rowR a cs) (.pointer (some (elA a (i.toNat * (z + 1))))) := fun ρ hρ w hR _ _ _ _ => by
  obtain ⟨b, off, rfl, _⟩ := hR.some hc
  simp [execOp, hρ x _ hx, hρ y _ hy, Instr.indexAt, asIntOf, hs, hz, h0, h1, Addr.add_eq, elA]
/-- A row cut at its beginning. -/
theorem row_cut {E z n c : Nat} {a : Option Addr} {cs : List Value} [Abs R] (d : Nat) (hd : d ≤ n) : Lands (rowP E z a n c cs :: R) (rowP E z (sBase a d z c) (n - d) (c - d) (cs.drop (d * z)) :: R) := by
  rintro m ⟨m1, m2, dj, e, H, r⟩
  by_cases hc : c = d
  · have hlen := rowP_len H
    have hn : n - d = 0 := by omega
    have hcd : c - d = 0 := by omega
    have hnil : cs.drop (d * z) = [] := by
      apply List.drop_eq_nil_of_le
      rw [hlen.1]; exact Nat.mul_le_mul_right _ (by omega)
    rw [hn, hcd, hnil]
    refine rowP_nil ?_
    exact Abs.h _ _ ⟨m1, m2, dj, e, H, r⟩
  · rcases H with ⟨rfl, rfl, rfl, _⟩ | ⟨b, off, xs, fz, rfl, hp, hl, hnc, hoff, hfz, hcell⟩
    · exfalso; omega
    · refine ⟨m1, m2, dj, e, .inr ⟨b, off + d * z, xs, fz, by simp [sBase, hc, Addr.add_eq], hp, ?_, by omega, ?_, hfz, ?_⟩, r⟩
      · rw [List.length_drop, hl, Nat.sub_mul]
      · rw [Nat.sub_mul]
        have : d * z ≤ c * z := Nat.mul_le_mul_right _ (by omega)
        omega
      · intro j v hv
        rw [List.getElem?_drop] at hv
        have := hcell _ _ hv
        rwa [← Nat.add_assoc] at this
theorem SC.pure {Q : Hp → Prop} {p : Prop} (hQ : Has W L Q) (hp : ∀ h, Q h → p) (h : p → SC W P n c k l L) : SC W P n c k l L := fun a w ha hw => h (hp _ (hQ w hw)) a w ha hw
theorem SR.pure {Q : Hp → Prop} {p : Prop} (hQ : Has W L Q) (hp : ∀ h, Q h → p) (h : p → SR W P n ops os k l L) : SR W P n ops os k l L := fun a w ha hw => h (hp _ (hQ w hw)) a w ha hw
theorem SC.row_none {cs : List Value} [HasRow L none cs] (h : cs = [] → SC W P n c k l L) : SC W P n c k l L := SC.pure (Has.ro (a := none)) (fun _ e => e) h
theorem SC.row_len {E z m c2 : Nat} {a : Option Addr} {cs : List Value} [t : TakeRow L a E z m c2 cs R] (h : cs.length = m * z → m ≤ c2 → SC W P n c k l L) : SC W P n c k l L := fun x w hx hw => by
  obtain ⟨m1, H, _⟩ := Den_head (Den_perm t.perm _ hw.2.2.2)
  exact h (rowP_len H).1 (rowP_len H).2 x w hx hw
theorem run_equalIn_sl (d m c2 m' c' : Nat) {t e : TypeId} (a : Option Addr) (w : World) (ht : (underlying t).run P w = .ok (.slice e) w) : (Op.equalIn (d + 1) t (.slice a m c2) (.slice none m' c')).run P w = .ok a.isNone w := by
  cases a <;> simp [Op.equalIn, ht]
theorem RD_eqlSl {x y : Operand} {t yt e m c2 : Nat} {a : Option Addr} {m' c' : Nat} (ht : P.underlying t = some (.slice e)) (hx : ev l x = some (.slice a m c2)) (hy : ev l y = some (.slice none m' c')) : RD P l (.binOp .eql t x y yt) ty RU (.bool a.isNone) := fun ρ hρ w _ _ _ _ _ => by
  have h2 := run_equalIn_sl 9999 m c2 m' c' a w (run_underlying ht w)
  simp [execOp, hρ x _ hx, hρ y _ hy, eqGuard, binOp, Op.equal, Op.maxDepth, h2]
theorem RD_conv64 {x : Operand} {s t : TypeId} {j : IntKind} {a : Int} {d : TypeDesc} (hs : ∀ w, (underlying s).run P w = .ok d w) (ht : ∀ w, (underlying t).run P w = .ok (.int .u64) w) (hx : ev l x = some (.int j a)) (h0 : 0 ≤ a) (h1 : a < 18446744073709551616) : RD P l (.convert s t x) ty RU (.int .u64 a) := by
  have := RD_convI (P := P) (ty := ty) hs ht hx; rwa [IntWalk.u64_in _ ⟨h0, by omega⟩] at this
theorem RD_convi64 {x : Operand} {s t : TypeId} {j : IntKind} {a : Int} {d : TypeDesc} (hs : ∀ w, (underlying s).run P w = .ok d w) (ht : ∀ w, (underlying t).run P w = .ok (.int .i64) w) (hx : ev l x = some (.int j a)) (h0 : -9223372036854775808 ≤ a) (h1 : a < 9223372036854775808) : RD P l (.convert s t x) ty RU (.int .i64 a) := by
  have := RD_convI (P := P) (ty := ty) hs ht hx; rwa [IntWalk.i64_in _ ⟨h0, by omega⟩] at this
theorem RD_lookS {α : Type} [DecidableEq α] {K : Keyed α} {x y : Operand} {t kt et b : Nat} {m : List (α × Value)} {key : α} {z u : Value} (hu : P.underlying t = some (.map kt et)) (hk : P.underlying kt = some K.desc) (hz : ∀ w, (zeroValue et).run P w = .ok z w)
    (hx : ev l x = some (.map (some b))) (hy : ev l y = some (K.val key)) (h : mget m key = some u) : RD P l (.lookup t x y false) ty (mapF K b m) u := by
  have := RD_lookup (P := P) (l := l) (ty := ty) (m := m) (k := key) hu hk hz hx hy; rw [h] at this; exact this
theorem RD_lookNo {α : Type} [DecidableEq α] {K : Keyed α} {x y : Operand} {t kt et b : Nat} {m : List (α × Value)} {key : α} {z : Value} (hu : P.underlying t = some (.map kt et)) (hk : P.underlying kt = some K.desc) (hz : ∀ w, (zeroValue et).run P w = .ok z w)
    (hx : ev l x = some (.map (some b))) (hy : ev l y = some (K.val key)) (h : mget m key = none) : RD P l (.lookup t x y false) ty (mapF K b m) z := by
  have := RD_lookup (P := P) (l := l) (ty := ty) (m := m) (k := key) hu hk hz hx hy; rw [h] at this; exact this
/-- A look-up of numbers: what is there, or 0. -/
def iget (m : List (Int × Value)) (key : Int) : Int := match mget m key with | some (.int .i64 n) => n | _ => 0
theorem RD_lookI {x y : Operand} {t kt et b : Nat} {m : List (Int × Value)} {key : Int} (hu : P.underlying t = some (.map kt et)) (hk : P.underlying kt = some intK.desc) (hz : ∀ w, (zeroValue et).run P w = .ok (.int .i64 0) w)
    (hx : ev l x = some (.map (some b))) (hy : ev l y = some (intK.val key)) (h : mget m key = none ∨ ∃ n, mget m key = some (.int .i64 n)) : RD P l (.lookup t x y false) ty (mapF intK b m) (.int .i64 (iget m key)) := by
  rcases h with h | ⟨n, h⟩
  · have := RD_lookNo (P := P) (l := l) (ty := ty) (K := intK) hu hk hz hx hy h
    simpa [iget, h] using this
  · have := RD_lookS (P := P) (l := l) (ty := ty) (K := intK) hu hk hz hx hy h
    simpa [iget, h] using this
theorem RD_remk {x y : Operand} {t yt : TypeId} {kk : IntKind} {a b : Int} {q : Nat} (hx : ev l x = some (.int kk a)) (hy : ev l y = some (.int kk b)) (ha : 0 ≤ a) (h0 : 0 < b) (h : a % b = (q : Int)) : RD P l (.binOp .rem t x y yt) ty RU (.int kk (q : Int)) := by
  have := RD_remi (P := P) (ty := ty) (t := t) (yt := yt) hx hy ha h0; rwa [h] at this
theorem band_mask (m : Nat) (hm : m ≤ 62) (x : Int) : band .i64 x ((2 ^ m - 1 : Nat) : Int) = x % (2 ^ m : Nat) := by
  have hp : 2 ^ m ≤ 2 ^ 62 := Nat.pow_le_pow_right (by decide) hm
  have hp0 : 0 < 2 ^ m := Nat.pos_of_ne_zero (by simp)
  have e3 : BitVec.ofInt IntKind.i64.bits ((2 ^ m - 1 : Nat) : Int) = BitVec.ofNat 64 (2 ^ m - 1) := by apply BitVec.eq_of_toNat_eq; simp [IntKind.bits]
  have e4 : (BitVec.ofInt 64 x &&& BitVec.ofNat 64 (2 ^ m - 1)).toNat = ((x % 18446744073709551616).toNat) % 2 ^ m := by
    simp only [BitVec.toNat_and, BitVec.toNat_ofInt, BitVec.toNat_ofNat]
    rw [Nat.mod_eq_of_lt (show 2 ^ m - 1 < 2 ^ 64 by omega), Nat.and_two_pow_sub_one_eq_mod]
    rfl
  have e5 : band .i64 x ((2 ^ m - 1 : Nat) : Int) = IntKind.i64.wrap (((BitVec.ofInt 64 x &&& BitVec.ofNat 64 (2 ^ m - 1)).toNat : Nat) : Int) := by unfold band; rw [e3]; rfl
  rw [e5, e4]
  have hlt := Nat.mod_lt ((x % 18446744073709551616).toNat) hp0
  rw [IntWalk.i64_in _ ⟨by omega, by omega⟩]
  have hd : ((2 ^ m : Nat) : Int) ∣ 18446744073709551616 := by
    refine ⟨((2 ^ (64 - m) : Nat) : Int), ?_⟩
    have : (18446744073709551616 : Nat) = 2 ^ m * 2 ^ (64 - m) := by rw [← Nat.pow_add, show m + (64 - m) = 64 by omega]
    have h2 := congrArg (fun n : Nat => (n : Int)) this
    rw [Int.natCast_mul] at h2
    exact h2
  rw [Int.natCast_emod, Int.toNat_of_nonneg (by omega), Int.emod_emod_of_dvd _ hd]
theorem RD_mask {x y : Operand} {t yt : TypeId} {a b : Int} (m : Nat) (hx : ev l x = some (.int .i64 a)) (hy : ev l y = some (.int .i64 b)) (hb : b = ((2 ^ m - 1 : Nat) : Int)) (hm : m ≤ 62) (M : Int) (hM : M = (2 ^ m : Nat)) : RD P l (.binOp .and t x y yt) ty RU (.int .i64 (a % M)) := by
  have := RD_and (P := P) (ty := ty) (t := t) (yt := yt) hx hy; rw [hb, band_mask m hm] at this; rw [hM]; exact this
theorem cellR_of {w : World} {b off : Nat} (h : w.cell? ⟨b, off, none⟩ = some v) : cellR b off v (fun b => w.heap[b]?) := by
  unfold World.cell? at h
  simp only at h
  split at h
  · rename_i cs T fz e
    exact ⟨cs, T, fz, e, by simpa using h⟩
  · cases h
theorem hasRow_old {w : World} {a : Option Addr} {cs : List Value} (h : rowR a cs (fun b => w.heap[b]?)) : HasRow [junk, old w] a cs := by
  refine HasRow.cons (h := ⟨.head rowR.up fun q hq => ?_⟩)
  exact rowR.up _ _ (fun b o e => by rw [hq b]; exact e) h
theorem rowR_of {w : World} {x : Addr} {cs : List Value} (h : ∀ j v, cs[j]? = some v → w.cell? (x.add j) = some v) : rowR (some x) cs (fun b => w.heap[b]?) := by
  obtain ⟨b, off, sp⟩ := x
  cases sp with
  | none => exact fun j v e => cellR_of (by have := h j v e; rwa [Addr.add_eq] at this)
  | some s =>
    show cs = []
    cases cs with
    | nil => rfl
    | cons v r =>
      have := h 0 v rfl
      simp [Addr.add, World.cell?] at this
      split at this <;> cases this
/-- A law's call, from the world as it came. -/
theorem law_calls {f : FuncId} {args : Array Value} (w : World) (h : CallsK w P f args [junk, old w] (fun v L => v = .bool true ∧ Lands L [junk, old w])) :
    Calls P f args w fun e w' => e = .returned (.bool true) ∧ Go.RowKit.Below w.heap.size w w' := by
  have h0 : Sat w [junk, old w] w := by
    have := Sat.start w
    exact this.imp fun m H => ⟨fun _ => none, m, fun b => .inl rfl, by funext b; simp [join], trivial, H⟩
  refine (h w h0).mono fun e w' ⟨v, L, he, ⟨hv, hl⟩, hs⟩ => ⟨by rw [he, hv], ?_⟩
  exact Sat.below (M := [junk]) (L := []) (hs.imp hl)
theorem RD_cutHMn {x hi mx : Operand} {t e z m c2 d : Nat} {a : Option Addr} {kh km : IntKind} (hs : ∀ w, (underlying t).run P w = .ok (.slice e) w) (hz : ∀ w, (sizeOf e).run P w = .ok z w)
    (hx : ev l x = some (.slice a m c2)) (hh : ev l hi = some (.int kh (d : Int))) (hm : ev l mx = some (.int km (d : Int))) (h2 : d ≤ c2) : RD P l (.slice t x none (some hi) (some mx)) ty RU (.slice a d d) := by
  have := RD_cutHM (P := P) (ty := ty) hs hz hx hh hm (by omega) (Int.le_refl _) (by omega)
  simpa using this
theorem RD_cutLn {x lo : Operand} {t e z m c2 d : Nat} {a : Option Addr} {kl : IntKind} (hs : ∀ w, (underlying t).run P w = .ok (.slice e) w) (hz : ∀ w, (sizeOf e).run P w = .ok z w)
    (hx : ev l x = some (.slice a m c2)) (hl : ev l lo = some (.int kl (d : Int))) (h1 : d ≤ m) (h2 : m ≤ c2) : RD P l (.slice t x (some lo) none none) ty RU (.slice (sBase a d z c2) (m - d) (c2 - d)) := by
  have := RD_cutL (P := P) (ty := ty) hs hz hx hl (by omega) (by omega) h2
  simpa using this
end
end Go.Proofs.YtdhpjdhloaoepaaGreat

/- What each struct literal of the program comes to (printed by gen_bd.py). -/
namespace Go.Proofs.YtdhpjdhloaoepaaGreat
open Go Go.Proofs

theorem built149  : Tryz.prog.built 149 [] = some #[.int .i64 0, .int .i64 0, .int .i64 0, .bool false, .int .u64 0, .int .u64 0, .int .i64 0] := by kernel_rfl
theorem built149_0 {x1 : Int} : Tryz.prog.built 149 [(0, .int .i64 x1)] = some #[.int .i64 x1, .int .i64 0, .int .i64 0, .bool false, .int .u64 0, .int .u64 0, .int .i64 0] := by kernel_rfl
theorem built149_0_1_2 {x1 : Int} {x2 : Int} {x3 : Int} : Tryz.prog.built 149 [(0, .int .i64 x1), (1, .int .i64 x2), (2, .int .i64 x3)] = some #[.int .i64 x1, .int .i64 x2, .int .i64 x3, .bool false, .int .u64 0, .int .u64 0, .int .i64 0] := by kernel_rfl
theorem built23_0_1_2_3_4_5_6_7 {x1 : Int} {x2 : Int} {x3 : Int} {x4 : Int} {x5 : Int} {x6 : Int} {x7 : Int} {x8 : Int} : Tryz.prog.built 23 [(0, .int .i64 x1), (1, .int .i64 x2), (2, .int .i64 x3), (3, .int .i64 x4), (4, .int .i64 x5), (5, .int .i64 x6), (6, .int .i64 x7), (7, .int .i64 x8)] = some #[.int .i64 x1, .int .i64 x2, .int .i64 x3, .int .i64 x4, .int .i64 x5, .int .i64 x6, .int .i64 x7, .int .i64 x8] := by kernel_rfl
theorem built39_0_1_2 {x1 : Int} {x2 : Int} {x3 : Option Addr} {x4 : Nat} {x5 : Nat} : Tryz.prog.built 39 [(0, .int .i64 x1), (1, .int .i64 x2), (2, .slice x3 x4 x5)] = some #[.int .i64 x1, .int .i64 x2, .slice x3 x4 x5] := by kernel_rfl
theorem built39_1 {x1 : Int} : Tryz.prog.built 39 [(1, .int .i64 x1)] = some #[.int .i64 0, .int .i64 x1, .slice none 0 0] := by kernel_rfl
theorem built146  : Tryz.prog.built 146 [] = some #[.int .i64 0, .int .i64 0, .int .i64 0, .int .i64 0, .slice none 0 0, .slice none 0 0] := by kernel_rfl
theorem built146_0_1_2_3 {x1 : Int} {x2 : Int} {x3 : Int} {x4 : Int} {x5 : Option Addr} {x6 : Nat} {x7 : Nat} {x8 : Option Addr} {x9 : Nat} {x10 : Nat} : Tryz.prog.built 146 [(0, .int .i64 x1), (1, .int .i64 x2), (2, .agg #[.int .i64 x3, .int .i64 x4, .slice x5 x6 x7]), (3, .slice x8 x9 x10)] = some #[.int .i64 x1, .int .i64 x2, .int .i64 x3, .int .i64 x4, .slice x5 x6 x7, .slice x8 x9 x10] := by kernel_rfl
theorem built43_0_1_2_3 {x1 : Int} {x2 : Int} {x3 : Int} {x4 : Int} : Tryz.prog.built 43 [(0, .int .i64 x1), (1, .int .u64 x2), (2, .int .u64 x3), (3, .int .i64 x4)] = some #[.int .i64 x1, .int .u64 x2, .int .u64 x3, .int .i64 x4] := by kernel_rfl
theorem built46_0_1_2 {x1 : Int} {x2 : Int} {x3 : Int} : Tryz.prog.built 46 [(0, .int .i64 x1), (1, .int .i64 x2), (2, .int .i64 x3)] = some #[.int .i64 x1, .int .i64 x2, .int .i64 x3, .int .i64 0, .int .i64 0, .int .i64 0, .int .i64 0, .slice none 0 0, .int .i64 0, .slice none 0 0, .slice none 0 0, .int .i64 0, .int .i64 0, .slice none 0 0, .int .i64 0, .int .u64 0, .int .u64 0, .int .i64 0, .slice none 0 0] := by kernel_rfl
theorem built273  : Tryz.prog.built 273 [] = some #[.int .i64 0, .int .u64 0, .int .u64 0, .bool false, .int .i64 0, .int .i64 0, .int .i64 0, .bool false, .int .u64 0, .int .u64 0, .int .i64 0] := by kernel_rfl
theorem built273_0_1_2 {x1 : Int} {x2 : Int} {x3 : Int} : Tryz.prog.built 273 [(0, .int .i64 x1), (1, .int .u64 x2), (2, .int .u64 x3)] = some #[.int .i64 x1, .int .u64 x2, .int .u64 x3, .bool false, .int .i64 0, .int .i64 0, .int .i64 0, .bool false, .int .u64 0, .int .u64 0, .int .i64 0] := by kernel_rfl
theorem built156_1 {x1 : Option Nat} : Tryz.prog.built 156 [(1, .map x1)] = some #[.slice none 0 0, .map x1] := by kernel_rfl
theorem built247  : Tryz.prog.built 247 [] = some #[.slice none 0 0] := by kernel_rfl
theorem built339_0 {x1 : Option Addr} {x2 : Nat} {x3 : Nat} : Tryz.prog.built 339 [(0, .slice x1 x2 x3)] = some #[.slice x1 x2 x3, .bool false] := by kernel_rfl
theorem built95_0_1_2 {x1 : Option Addr} {x2 : Option Addr} {x3 : Option Addr} : Tryz.prog.built 95 [(0, .pointer x1), (1, .pointer x2), (2, .pointer x3)] = some #[.pointer x1, .pointer x2, .pointer x3] := by kernel_rfl
theorem built159_0 {x1 : Option Nat} : Tryz.prog.built 159 [(0, .map x1)] = some #[.map x1] := by kernel_rfl
theorem built164_0_1_2 {x1 : Option Addr} {x2 : Int} {x3 : Option Nat} : Tryz.prog.built 164 [(0, .pointer x1), (1, .int .i64 x2), (2, .map x3)] = some #[.pointer x1, .int .i64 x2, .map x3] := by kernel_rfl
theorem built166_0_1_2 {x1 : Option Addr} {x2 : Int} {x3 : Int} {x4 : Option Addr} {x5 : Nat} {x6 : Nat} {x7 : Int} : Tryz.prog.built 166 [(0, .pointer x1), (1, .agg #[.int .i64 x2, .int .i64 x3, .slice x4 x5 x6]), (2, .int .i64 x7)] = some #[.pointer x1, .int .i64 x2, .int .i64 x3, .slice x4 x5 x6, .int .i64 x7, .int .i64 0] := by kernel_rfl
theorem built144_0_1_2_4 {x1 : Option Addr} {x2 : Option Addr} {x3 : Int} {x4 : Option Nat} : Tryz.prog.built 144 [(0, .pointer x1), (1, .pointer x2), (2, .int .i64 x3), (4, .map x4)] = some #[.pointer x1, .pointer x2, .int .i64 x3, .slice none 0 0, .map x4] := by kernel_rfl
theorem built98_0_1_2 {x1 : Int} {x2 : Option Addr} {x3 : Nat} {x4 : Nat} {x5 : Option Nat} : Tryz.prog.built 98 [(0, .int .i64 x1), (1, .slice x2 x3 x4), (2, .map x5)] = some #[.int .i64 x1, .slice x2 x3 x4, .map x5] := by kernel_rfl
theorem built101_0 {x1 : Int} : Tryz.prog.built 101 [(0, .int .i64 x1)] = some #[.int .i64 x1, .slice none 0 0] := by kernel_rfl
end Go.Proofs.YtdhpjdhloaoepaaGreat

/- What an argument's reading gives a walk: its numbers, its texts, its rows. -/
namespace Go.Proofs.YtdhpjdhloaoepaaGreat
open Go Go.ChangeShapes Go.WideShapes
section
variable {H : Type} {enc : TypeId × Value → H} {P : Program} {W : World} {t e : TypeId} {cs : List Value} {v : Value} {d : DataW H} {p : List MemPlace} {base : Nat}
/-- The cells read as data of a type. -/
def Rdb (enc : TypeId × Value → H) (P : Program) (W : World) (t : TypeId) (cs : List Value) : Prop := ∃ fuel x, DataW.trod enc P W 0 (fun _ => true) true fuel t cs = some x
theorem Rdb.of (h : DataW.Trod enc P W 0 (fun _ => true) true t v d p) : Rdb enc P W t v.cells.toList := by
  obtain ⟨f, h⟩ := h
  exact ⟨f, _, h⟩
theorem Rdb.int {k : IntKind} (ht : P.underlying t = some (.int k)) (h : Rdb enc P W t cs) : ∃ n, cs = [.int k n] ∧ (Lit.int k n).wf = true := by
  obtain ⟨f, x, h⟩ := h
  obtain ⟨n, h1, _, h2⟩ := DataW.trod_int ht h
  exact ⟨n, h1, h2⟩
theorem Rdb.bool (ht : P.underlying t = some .bool) (h : Rdb enc P W t cs) : ∃ b, cs = [.bool b] := by
  obtain ⟨f, x, h⟩ := h
  obtain ⟨n, h1, _⟩ := DataW.trod_bool ht h
  exact ⟨n, h1⟩
theorem Rdb.agg {fs : Array Field} (ht : P.underlying t = some (.struct fs)) (h : Rdb enc P W t cs) :
    cs.length = P.cellsOf t ∧ ∀ (i : Nat) (f : Field), fs[i]? = some f → Rdb enc P W f.type ((cs.drop f.offset).take (P.cellsOf f.type)) := by
  obtain ⟨f, x, h⟩ := h
  obtain ⟨xs, n, _, _, h1, h2, h3⟩ := DataW.trod_struct ht h
  refine ⟨h1, fun i f hf => ?_⟩
  have hi : i < xs.length := by rw [h2]; exact (Array.getElem?_eq_some_iff.1 hf).1
  exact ⟨n, _, (h3 i f hf).trans (List.getElem?_eq_getElem hi)⟩
theorem add_add (x : Addr) (i j : Nat) : (x.add i).add j = x.add (i + j) := by
  obtain ⟨b, o, s⟩ := x
  by_cases hi : i = 0
  · subst hi; simp [Addr.add]
  · by_cases hj : j = 0
    · subst hj; simp [Addr.add]
    · simp [Addr.add, hi, hj, Nat.add_assoc]
theorem Rdb.slice (ht : P.underlying t = some (.slice e)) (h : Rdb enc P W t cs) :
    cs = [.slice none 0 0] ∨ ∃ x n c, cs = [.slice (some x) n c] ∧ n ≤ c ∧ c ≤ maxLen ∧ ∀ j, j < n → ∃ r : List Value, r.length = P.cellsOf e ∧ (∀ i, i < P.cellsOf e → W.cell? (x.add (j * P.cellsOf e + i)) = r[i]?) ∧ Rdb enc P W e r := by
  obtain ⟨f, y, h⟩ := h
  rcases DataW.trod_slice ht h with ⟨h0, _⟩ | ⟨a, len, cap, elems, rest, n, _, hcs, _, _, hl, hm, hlen, hel, _⟩
  · exact .inl h0
  · refine .inr ⟨a, len, cap, hcs, hl, hm, fun j hj => ?_⟩
    have h1 := hel j hj
    rw [List.getElem?_eq_getElem (by omega)] at h1
    obtain ⟨r, h2, h3⟩ := Option.bind_eq_some_iff.1 h1
    obtain ⟨_, h4, h5⟩ := World.cells?_some h2
    refine ⟨r, h4, fun i hi => ?_, ⟨n, _, h3⟩⟩
    rw [← h5 i hi, add_add]
theorem list_choose {Y : Type} {Q : Nat → Y → Prop} : ∀ n : Nat, (∀ j, j < n → ∃ y, Q j y) → ∃ l : List Y, l.length = n ∧ ∀ j y, l[j]? = some y → Q j y
  | 0, _ => ⟨[], rfl, fun j y h => by simp at h⟩
  | n + 1, h => by
    obtain ⟨l, h1, h2⟩ := list_choose n fun j hj => h j (by omega)
    obtain ⟨y, hy⟩ := h n (by omega)
    refine ⟨l ++ [y], by simp [h1], fun j z hz => ?_⟩
    by_cases hj : j < n
    · exact h2 j z (by rwa [List.getElem?_append_left (by omega)] at hz)
    · rw [List.getElem?_append_right (by omega)] at hz
      have : j - l.length = 0 := by
        have := (List.getElem?_eq_some_iff.1 hz).1
        simp at this; omega
      rw [this] at hz
      simp at hz
      obtain rfl : j = n := by omega
      exact hz ▸ hy
theorem flat_cells {Y : Type} {f : Y → List Value} {k : Nat} (hf : ∀ y, (f y).length = k) : ∀ (l : List Y) (x : Addr), (∀ j y, l[j]? = some y → ∀ i, i < k → W.cell? (x.add (j * k + i)) = (f y)[i]?) →
    ∀ q v, (l.flatMap f)[q]? = some v → W.cell? (x.add q) = some v
  | [], _, _, q, v, h => by simp at h
  | y :: l, x, hl, q, v, h => by
    rw [List.flatMap_cons] at h
    by_cases hq : q < k
    · rw [List.getElem?_append_left (by rw [hf]; exact hq)] at h
      have := hl 0 y rfl q hq
      rw [h] at this
      simpa using this
    · rw [List.getElem?_append_right (by rw [hf]; omega), hf] at h
      have := flat_cells hf l (x.add k) (fun j z hz i hi => by
        rw [add_add, ← hl (j + 1) z (by simpa using hz) i hi]
        congr 2
        rw [Nat.add_mul]; omega) (q - k) v h
      rw [add_add] at this
      rwa [show k + (q - k) = q by omega] at this
/-- A slice whose elements take k cells each. -/
theorem Rdb.rowk {Y : Type} {f : Y → List Value} {k : Nat} {Q : Y → Prop} (hf : ∀ y, (f y).length = k) (ht : P.underlying t = some (.slice e)) (hc : P.cellsOf e = k)
    (hY : ∀ r, Rdb enc P W e r → ∃ y, r = f y ∧ Q y) (h : Rdb enc P W t cs) :
    ∃ a n c, ∃ l : List Y, cs = [.slice a n c] ∧ n ≤ c ∧ c ≤ maxLen ∧ l.length = n ∧ (∀ y ∈ l, Q y) ∧ HasRow [junk, old W] a (l.flatMap f) := by
  rcases h.slice ht with rfl | ⟨x, n, c, rfl, h1, h2, h3⟩
  · exact ⟨none, 0, 0, [], rfl, Nat.le_refl _, by decide, rfl, (fun _ h => nomatch h), HasRow.nil⟩
  · rw [hc] at h3
    obtain ⟨l, hl, hq⟩ := list_choose (Q := fun j y => Q y ∧ ∀ i, i < k → W.cell? (x.add (j * k + i)) = (f y)[i]?) n fun j hj => by
      obtain ⟨r, _, h5, h6⟩ := h3 j hj
      obtain ⟨y, rfl, hy⟩ := hY r h6
      exact ⟨y, hy, h5⟩
    refine ⟨some x, n, c, l, rfl, h1, h2, hl, fun y hy => ?_, hasRow_old (rowR_of (flat_cells hf l x fun j y hj => (hq j y hj).2))⟩
    obtain ⟨j, hj⟩ := List.getElem?_of_mem hy
    exact (hq j y hj).1
/-- .. one cell each. -/
theorem Rdb.row1 {Y : Type} {f : Y → Value} {Q : Y → Prop} (ht : P.underlying t = some (.slice e)) (hc : P.cellsOf e = 1)
    (hY : ∀ r, Rdb enc P W e r → ∃ y, r = [f y] ∧ Q y) (h : Rdb enc P W t cs) :
    ∃ a n c, ∃ l : List Y, cs = [.slice a n c] ∧ n ≤ c ∧ c ≤ maxLen ∧ l.length = n ∧ (∀ y ∈ l, Q y) ∧ HasRow [junk, old W] a (l.map f) := by
  have := Rdb.rowk (f := fun y => [f y]) (Q := Q) (fun _ => rfl) ht hc hY h
  have e (l : List Y) : l.flatMap (fun y => [f y]) = l.map f := by induction l <;> simp_all
  simpa only [e] using this
theorem Rdb.bytes (ht : P.underlying t = some (.slice e)) (he : P.underlying e = some (.int .u8)) (hc : P.cellsOf e = 1) (h : Rdb enc P W t cs) :
    ∃ a n c, ∃ bs : List UInt8, cs = [.slice a n c] ∧ n ≤ c ∧ c ≤ maxLen ∧ bs.length = n ∧ HasRow [junk, old W] a (bs.map byteV) := by
  obtain ⟨a, n, c, l, h1, h2, h3, h4, _, h5⟩ := Rdb.row1 (f := byteV) (Q := fun _ => True) ht hc (fun r hr => by
    obtain ⟨m, rfl, hw⟩ := hr.int he
    have := Go.bounds_u8 hw
    refine ⟨UInt8.ofNat m.toNat, ?_, trivial⟩
    simp [byteV]
    omega) h
  exact ⟨a, n, c, l, h1, h2, h3, h4, h5⟩
def I64 (n : Int) : Prop := -9223372036854775808 ≤ n ∧ n ≤ 9223372036854775807
/-! ### A slice of slices of bytes -/
/-- A slice of bytes that came in. -/
structure BSl where
  a : Option Addr
  n : Nat
  c : Nat
  bs : List UInt8
def BSl.val (s : BSl) : Value := .slice s.a s.n s.c
instance (s : BSl) : One s.val := ⟨rfl, rfl⟩
/-- .. that may be read. -/
structure BSl.Ok (F : List HProp) (s : BSl) : Prop where
  hn : s.bs.length = s.n
  r : HasRow F s.a (s.bs.map byteV)
/-! ### Arguments -/
theorem arg_int {k : IntKind} (ht : P.underlying t = some (.int k)) (o : Value.okWide P W .any base t v) (h : DataW.Trod enc P W 0 (fun _ => true) true t v d p) : ∃ n, v = .int k n ∧ (Lit.int k n).wf = true := by
  obtain ⟨n, rfl⟩ := okWide_int ht o
  obtain ⟨m, e, hw⟩ := (Rdb.of h).int ht
  simp [Value.cells] at e
  exact ⟨n, rfl, e ▸ hw⟩
end
end Go.Proofs.YtdhpjdhloaoepaaGreat

/- Several orders that meet again: what stands behind them is walked once. And rules on turned bytes. -/
namespace Go.Proofs.YtdhpjdhloaoepaaGreat
open Go
section
variable {W : World} {P : Program} {n : Nat} {k : Kont} {l : Env} {L : List HProp} {ops : Array Oper} {r : Ord} {Ts0 : Facts}
/-- Blocks L let every fact be read. -/
def HasAll (W : World) (L : List HProp) : Facts → Prop
  | [] => True
  | (_, T) :: r => Has W L T ∧ HasAll W L r
theorem HasAll.nil : HasAll W L [] := trivial
theorem HasAll.cons {q : Nat} {T : Hp → Prop} {r : Facts} (h : Has W L T) (k : HasAll W L r) : HasAll W L ((q, T) :: r) := ⟨h, k⟩
theorem Keeps.all {j : Nat} : ∀ {Ts : Facts}, HasAll W L Ts → Keeps W ops j L Ts
  | [], _ => trivial
  | (_, _) :: _, h => Keeps.h h.1 (Keeps.all h.2)
/-- Ways that meet again behind two, three, four codes. -/
theorem SC_join2 {X : Type} {c c2 : Code} (env : X → Env) (I : X → List HProp) (h1 : ∀ x, SN W P n k (env x) (I x))
    (h2 : (∀ x l' L', EnvLe (env x) l' → Lands L' (I x) → SN W P n k l' L') → SC W P n c (.seq c2 k) l L) : SC W P n c (.seq c2 k) l L := h2 fun x _ _ he hL => ((h1 x).le he).lands hL
theorem SQ_join {X : Type} (rest : Ord) (d : List Bool) (m0 : Nat) (hck : chkOrd ops rest d.toArray m0 = true) (news : X → Env) (I K : X → List HProp)
    (h1 : ∀ x Ts, HasAll W (K x) Ts → SQ W P n ops rest Ts k (news x ++ l) (I x))
    (h2 : (∀ x Ts l' L', EnvLe (news x ++ l) l' → Lands L' (I x) → HasAll W (K x) Ts → SQ W P n ops (.goto d m0) Ts k l' L') → SQ W P n ops r Ts0 k l L) : SQ W P n ops r Ts0 k l L :=
  h2 fun x Ts l' L' he hL hT => by
    intro hs listed fuel hc
    simp only [chkOrd, Bool.and_eq_true, beq_iff_eq] at hc
    obtain rfl : listed = d.toArray := by rw [← hc.1]
    exact (((h1 x Ts hT).le he).lands hL) hs _ fuel (chkOrd_mono _ _ _ _ (Nat.le_of_ble_eq_true hc.2) hck)
/-- An operation that its guard holds back, where it alone may come. -/
theorem SA_no {op : Op} {ty : TypeId} {pos : String} {after : Array Edge} {i : Nat} {Ts : Facts} {dst : Option Tmp} {j : Nat} {want : Bool} {e : Tmp} {b : Bool} (hi : ops[i]? = some ⟨dst, op, ty, pos, after, some (j, want)⟩) (hj : (ops[j]?).bind (·.dst) = some e) (hb : look l e = some (.bool b)) (eq : b = !want)
    (hd : ∀ d, dst = some d → d < n) (h : SQ W P n ops r Ts k (putE dst undef l) L) : SA W P n ops i r Ts k l L := fun listed fuel hs hc a w ha hw => by
  have hwt : Region.wanted ⟨dst, op, ty, pos, after, some (j, want)⟩ (yielded ops a.tmps) = false := by
    have hy : yielded ops a.tmps j = some b := by unfold yielded; rw [hj]; simp [ha.slot e _ hb]
    simp only [Region.wanted, hy, eq]; cases want <;> simp
  unfold wpOp
  rw [hi]
  simp only [hwt, Bool.false_eq_true, if_false]
  exact ⟨Holds.refl _, h hs _ _ hc _ w (ha.put hd) hw⟩
theorem SQ_no1 {op : Op} {ty : TypeId} {pos : String} {after : Array Edge} {i : Nat} {Ts : Facts} {dst : Option Tmp} {j : Nat} {want : Bool} {e : Tmp} {b : Bool} (hi : ops[i]? = some ⟨dst, op, ty, pos, after, some (j, want)⟩) (hj : (ops[j]?).bind (·.dst) = some e) (hb : look l e = some (.bool b)) (eq : b = !want)
    (hd : ∀ d, dst = some d → d < n) (h : SQ W P n ops r Ts k (putE dst undef l) L) : SQ W P n ops (.cons i false r) Ts k l L := SQ_one (SA_no hi hj hb eq hd h)
end
theorem wanted_undef {n : Nat} {l : Env} {ops : Array Oper} {a : Act} {op : Op} {ty : TypeId} {pos : String} {after : Array Edge} {dst : Option Tmp} {j : Nat} {want : Bool} {e : Tmp} (hj : (ops[j]?).bind (·.dst) = some e) (hb : look l e = some undef) (ha : Agree n l a) :
    Region.wanted ⟨dst, op, ty, pos, after, some (j, want)⟩ (yielded ops a.tmps) = false := by
  have hy : yielded ops a.tmps j = none := by unfold yielded; rw [hj]; simp [ha.slot e _ hb, undef]
  simp [Region.wanted, hy]
/-- A guard that was itself held back. -/
theorem SR_nou {W : World} {P : Program} {n : Nat} {k : Kont} {l : Env} {L : List HProp} {ops : Array Oper} {os : List Oper} {dst : Option Tmp} {op : Op} {ty : TypeId} {pos : String} {after : Array Edge} {j : Nat} {want : Bool} {d : Tmp}
    (hj : (ops[j]?).bind (·.dst) = some d) (hb : look l d = some undef) (hd : ∀ d, dst = some d → d < n)
    (h : SR W P n ops os k (putE dst undef l) L) : SR W P n ops (⟨dst, op, ty, pos, after, some (j, want)⟩ :: os) k l L := by
  intro a w ha hw
  unfold wpList
  rw [if_neg (by rw [wanted_undef hj hb ha]; simp)]
  exact h _ w (ha.put hd) hw
theorem SQ_nou {W : World} {P : Program} {n : Nat} {k : Kont} {l : Env} {L : List HProp} {ops : Array Oper} {r : Ord} {Ts : Facts} {i : Nat} {dst : Option Tmp} {op : Op} {ty : TypeId} {pos : String} {after : Array Edge} {j : Nat} {want : Bool} {e : Tmp}
    (hi : ops[i]? = some ⟨dst, op, ty, pos, after, some (j, want)⟩) (hj : (ops[j]?).bind (·.dst) = some e) (hb : look l e = some undef) (hd : ∀ d, dst = some d → d < n)
    (h : SQ W P n ops r Ts k (putE dst undef l) L) : SQ W P n ops (.cons i true r) Ts k l L :=
  SQ_rdg (R := RU) hi (fun a ha => .inr ⟨wanted_undef hj hb ha, rfl⟩) Has.u hd (h.less fun _ => trivial)
/-- The first k of a row. -/
theorem row_take {E z n c : Nat} {a : Option Addr} {cs : List Value} {R : List HProp} (k : Nat) (hk : k ≤ n) : Lands (rowP E z a n c cs :: R) (rowP E z a k c (cs.take (k * z)) :: R) := by
  rintro m ⟨m1, m2, dj, e, H, r⟩
  refine ⟨m1, m2, dj, e, ?_, r⟩
  rcases H with ⟨rfl, rfl, rfl, h⟩ | ⟨b, off, xs, fz, rfl, hp, hl, hnc, hsz, hfz, hc⟩
  · exact .inl ⟨by omega, rfl, by simp, h⟩
  · refine .inr ⟨b, off, xs, fz, rfl, hp, ?_, by omega, hsz, hfz, fun j v hj => hc j v ?_⟩
    · rw [List.length_take, hl, Nat.min_eq_left (Nat.mul_le_mul_right z hk)]
    · rw [List.getElem?_take] at hj
      split at hj
      · exact hj
      · cases hj
/-- A literal, as a row of one's own. -/
theorem lit_row {E z b : Nat} (n : Nat) {cs : List Value} {R : List HProp} (h : cs.length = n * z) : Lands (pt b (.cells cs.toArray E) :: R) (rowP E z (some ⟨b, 0, none⟩) n n cs :: R) := by
  rintro m ⟨m1, m2, dj, e, H, r⟩
  refine ⟨m1, m2, dj, e, .inr ⟨b, 0, cs.toArray, (0, 0), rfl, H, h, Nat.le_refl _, ?_, .inl rfl, fun j v hj => ?_⟩, r⟩
  · simp [h]
  · simpa using hj
end Go.Proofs.YtdhpjdhloaoepaaGreat

/- Closures: made, and called by their contracts. -/
namespace Go.Proofs.YtdhpjdhloaoepaaGreat
open Go Go.Proofs
section
variable {W : World} {P : Program} {n : Nat} {k : Kont} {l : Env} {L L' : List HProp} {ops : Array Oper} {os : List Oper} {ty : TypeId} {pos : String} {after : Array Edge} {i : Nat} {r : Ord} {Ts : Facts}
theorem RD_makeFunc {f : FuncId} {cs : Array Operand} {vs : List Value} (hc : EvA l cs.toList vs) : RD P l (.makeFunc (.func f) #[] cs) ty RU (.func (.func f) #[] vs.toArray) := fun ρ hρ w _ _ _ _ _ => by
  have hm : cs.map ρ = vs.toArray := by
    apply Array.ext'
    rw [Array.toList_map]
    have : ∀ {xs : List Operand} {us : List Value}, EvA l xs us → xs.map ρ = us := by
      intro xs us h
      induction h with
      | nil => rfl
      | cons hx _ ih => simp [hρ _ _ hx, ih]
    exact this hc
  have hmf : ∀ (fn : Fn) (first cap : Array Value) (w : World), (Instr.makeFunc fn first cap).run P w = .ok (.func fn first cap) w := fun _ _ _ _ => rfl
  simp [execOp, hm, hmf]
theorem RD_nilCheckF {x : Operand} {f : FuncId} {vs : Array Value} (hx : ev l x = some (.func (.func f) #[] vs)) : RD P l (.nilCheck x) ty RU (.func (.func f) #[] vs) := fun ρ hρ w _ _ _ _ _ => by simp [execOp, hρ x _ hx]
theorem run_callv {dst : Option Tmp} {x : Operand} {f : FuncId} {cs vs : List Value} {xs : Array Operand} {ats : Array TypeId} {g : Option (Nat × Bool)} {a : Act} (ha : Agree n l a)
    (hx : ev l x = some (.func (.func f) #[] cs.toArray)) (hcall : ∀ args w, (callFunc f args).run P w = .ok (.enter f args) w) (hargs : EvA l xs.toList vs) (w : World) :
    (execOp a.eval ⟨dst, .call ⟨.value x, xs, ats⟩, ty, pos, after, g⟩).run P w = .ok (.enter f (vs ++ cs).toArray) w := by
  have hm : xs.map a.eval = vs.toArray := Array.ext' (by rw [Array.toList_map]; exact hargs.eval ha)
  simp only [execOp, resolve, hm]
  rw [ha.eval hx]
  simp [Deferred.ofValue, invoke, hcall]
theorem SR_callv {dst : Option Tmp} {x : Operand} {f : FuncId} {cs vs : List Value} {xs : Array Operand} {ats : Array TypeId} {K : Value → List HProp → Prop}
    (hx : ev l x = some (.func (.func f) #[] cs.toArray)) (hcall : ∀ args w, (callFunc f args).run P w = .ok (.enter f args) w) (hargs : EvA l xs.toList vs)
    (hc : CallsK W P f (vs ++ cs).toArray L K) (hd : ∀ d, dst = some d → d < n) (h : ∀ v L', K v L' → SR W P n ops os k (putE dst v l) L') :
    SR W P n ops (⟨dst, .call ⟨.value x, xs, ats⟩, ty, pos, after, none⟩ :: os) k l L := by
  intro a w ha hw
  refine wpList_plain rfl fun K' hK' => ?_
  have hr := run_callv (dst := dst) (ats := ats) (ty := ty) (pos := pos) (after := after) (g := none) ha hx hcall hargs w
  unfold Oper.wp
  rw [hr]
  refine (hc w hw).mono fun e w' ⟨v, L', he, hk, hs⟩ => ?_
  subst he
  exact hK' _ _ (h v L' hk _ w' (ha.put (v := v) hd) hs)
end
end Go.Proofs.YtdhpjdhloaoepaaGreat

/- Structs stored and returned. -/
namespace Go.Proofs.YtdhpjdhloaoepaaGreat
open Go Go.Proofs
set_option maxRecDepth 100000
section
variable {W : World} {P : Program} {l : Env} {L R : List HProp} {ty : TypeId}
theorem setL_app : ∀ (hs ds rs vs : List Value), ds.length = vs.length → setL (hs ++ ds ++ rs) hs.length vs = hs ++ vs ++ rs
  | hs, [], rs, [], _ => by simp [setL]
  | hs, [], rs, _ :: _, h => by simp at h
  | hs, _ :: _, rs, [], h => by simp at h
  | hs, d :: ds, rs, v :: vs, h => by
    have ih := setL_app (hs ++ [v]) ds rs vs (by simpa using h)
    have e : (hs ++ (d :: ds) ++ rs).set hs.length v = (hs ++ [v]) ++ ds ++ rs := by simp
    show setL ((hs ++ (d :: ds) ++ rs).set hs.length v) (hs.length + 1) vs = _
    rw [e]
    simpa using ih
theorem setL_all {cs vs : List Value} (h : cs.length = vs.length) : setL cs 0 vs = vs := by simpa using setL_app [] cs [] vs h
/-- A struct put where one stood. -/
theorem OX_stA {x y : Operand} {t b m : Nat} {cs vs : List Value} {T : TypeId} (hz : ∀ w, (sizeOf t).run P w = .ok m w) (hx : ev l x = some (.pointer (some ⟨b, 0, none⟩))) (hy : ev l y = some (.agg vs.toArray)) [ho : Ones vs] [tp : TakePt L b (.cells cs.toArray T) R]
    (hm : vs.length = m) (hc : cs.length = m) : OX W P l L (.store t x y) ty (fun _ L' => L' = pt b (.cells vs.toArray T) :: R) :=
  (OX.lands (fun m => Den_perm tp.perm m) (OX_storeA hz hm hx hy (fun v hv => (ho.h v hv)) (by omega))).imp fun _ _ e => by rw [e, setL_all (by omega)]
variable {n : Nat} {k : Kont}
/-- A result that stands in a block of its own. -/
theorem SC_retC {t : Tmp} {T b m : Nat} {vs : List Value} (hr : k.root.1.results = #[.cell t T]) (hg : ∀ w, (isAgg T).run P w = .ok true w) (hs : ∀ w, (sizeOf T).run P w = .ok m w) (hv : look l t = some (.pointer (some ⟨b, 0, none⟩))) (hm : vs.length = m)
    (hR : Has W L (cellsR b 0 vs)) (hk : k.root.2 (.agg vs.toArray) L) : SC W P n .ret k l L :=
  SC_ret (fun tmps h w hw => by
    subst hm
    have := run_loadCells_list (P := P) w _ _ (hR w hw).cell
    simp [results, hr, h t _ hv, asAddr, loadVar, hg, hs, this]) hk
theorem SC_retCT {t u : Tmp} {T b m : Nat} {vs : List Value} {x : Value} (hr : k.root.1.results = #[.cell t T, .tmp u]) (hg : ∀ w, (isAgg T).run P w = .ok true w) (hs : ∀ w, (sizeOf T).run P w = .ok m w) (hv : look l t = some (.pointer (some ⟨b, 0, none⟩))) (hx : look l u = some x) (hm : vs.length = m)
    (hR : Has W L (cellsR b 0 vs)) (hk : k.root.2 (.tuple #[.agg vs.toArray, x]) L) : SC W P n .ret k l L :=
  SC_ret (fun tmps h w hw => by
    subst hm
    have := run_loadCells_list (P := P) w _ _ (hR w hw).cell
    simp [results, hr, h t _ hv, h u _ hx, asAddr, loadVar, hg, hs, this]) hk
end
end Go.Proofs.YtdhpjdhloaoepaaGreat

/- Places in a row, whatever stands there. -/
namespace Go.Proofs.YtdhpjdhloaoepaaGreat
open Go Go.Proofs
section
variable {W : World} {P : Program} {L : List HProp} {l : Env} {ty : TypeId}
def rowS (a : Option Addr) : Hp → Prop := fun _ => ∃ b off, a = some (⟨b, off, none⟩ : Addr)
theorem Has.rs {a : Option Addr} {cs : List Value} [h : HasRow L a cs] (hp : 0 < cs.length) : Has W L (rowS a) := fun w hw => by
  have hR : rowR a cs (fun b => w.heap[b]?) := (Has.ro (W := W) (L := L)) w hw
  obtain ⟨b, off, e, _⟩ := hR.some hp
  exact ⟨b, off, e⟩
theorem RD_ixE {x y : Operand} {t e n c m : Nat} {k : IntKind} {i : Int} {a : Option Addr} (hs : ∀ w, (underlying t).run P w = .ok (.slice e) w) (hz : ∀ w, (sizeOf e).run P w = .ok (m + 1) w)
    (hx : ev l x = some (.slice a n c)) (hy : ev l y = some (.int k i)) (h0 : 0 ≤ i) (h1 : i < n) :
    RD P l (.indexAddr t x y) ty (rowS a) (.pointer (some (elA a (i.toNat * (m + 1))))) := fun ρ hρ w hR _ _ _ _ => by
  obtain ⟨b, off, rfl⟩ := hR
  simp [execOp, hρ x _ hx, hρ y _ hy, Instr.indexAt, asIntOf, hs, hz, h0, h1, Addr.add_eq, elA]
end
end Go.Proofs.YtdhpjdhloaoepaaGreat

/- Short words for the walk: steps that a script takes by itself. No program in sight. -/
namespace Go.Proofs.YtdhpjdhloaoepaaGreat
open Go
/-! ### What a type is, by instances -/
class UI (P : Program) (t : TypeId) (d : outParam TypeDesc) : Prop where
  h : P.underlying t = some d
class SI (P : Program) (t : TypeId) (n : outParam Nat) : Prop where
  h : ∀ w, (sizeOf t).run P w = .ok n w
class AI (P : Program) (t : TypeId) (b : outParam Bool) : Prop where
  h : ∀ w, (isAgg t).run P w = .ok b w
class ZI (P : Program) (t : TypeId) (z : outParam Value) : Prop where
  h : ∀ w, (zeroValue t).run P w = .ok z w
class CI (P : Program) (f : FuncId) : Prop where
  h : ∀ args w, (callFunc f args).run P w = .ok (.enter f args) w
theorem UI.r {P : Program} {t : TypeId} {d : TypeDesc} [u : UI P t d] (w : World) : (underlying t).run P w = .ok d w := run_underlying u.h w
class GetF (fs : Array Field) (i : Nat) (f : outParam Field) : Prop where
  h : fs[i]? = some f
instance GetF.zero {x : Field} {r : List Field} : GetF (x :: r).toArray 0 x := ⟨by simp⟩
instance GetF.succ {x f : Field} {r : List Field} {i : Nat} [g : GetF r.toArray i f] : GetF (x :: r).toArray (i + 1) f := ⟨by simpa using g.h⟩
class FOf (f : Field) (o : outParam Nat) (t : outParam TypeId) : Prop where
  o : f.offset = o
  t : f.type = t
instance {n tg pp : String} {t : TypeId} {o bo : Nat} {e : Bool} : FOf ⟨n, t, o, e, tg, pp, bo⟩ o t := ⟨rfl, rfl⟩
/-- Field i of the struct s: where it lies, how long it is. -/
class FI (P : Program) (s : TypeId) (i : Nat) (o : outParam Nat) (t : outParam TypeId) (m : outParam Nat) : Prop where
  h : ∃ fs f, P.underlying s = some (.struct fs) ∧ fs[i]? = some f ∧ f.offset = o ∧ f.type = t ∧ ∀ w, (sizeOf t).run P w = .ok m w
instance {P : Program} {s : TypeId} {i o m : Nat} {t : TypeId} {fs : Array Field} {f : Field} [u : UI P s (.struct fs)] [g : GetF fs i f] [x : FOf f o t] [z : SI P t m] : FI P s i o t m := ⟨fs, f, u.h, g.h, x.o, x.t, z.h⟩
section
variable {W : World} {P : Program} {n : Nat} {k k' : Kont} {l l' : Env} {L L' M R : List HProp} {ops : Array Oper} {os : List Oper} {op : Op} {ty : TypeId} {pos : String} {after : Array Edge} {v u : Value} {d : Nat}
theorem RD_fa {x : Operand} {s i b off o m : Nat} {t : TypeId} [f : FI P s i o t (m + 1)] (hx : ev l x = some (.pointer (some ⟨b, off, none⟩))) : RD P l (.fieldAddr s x i) ty RU (.pointer (some ⟨b, off + o, none⟩)) := by
  obtain ⟨fs, f, h1, h2, h3, h4, h5⟩ := f.h
  exact RD_fieldAddr o (fun w => run_underlying h1 w) h2 (by rw [h3]; exact Nat.beq_refl o) (by rw [h4]; exact h5) hx
theorem RD_fa0 {x : Operand} {s i b off m : Nat} {t : TypeId} [f : FI P s i 0 t (m + 1)] (hx : ev l x = some (.pointer (some ⟨b, off, none⟩))) : RD P l (.fieldAddr s x i) ty RU (.pointer (some ⟨b, off, none⟩)) := RD_fa (o := 0) (m := m) (t := t) hx
theorem RD_faO {x : Operand} {s i j o m : Nat} {t : TypeId} {a : Option Addr} {cs : List Value} [f : FI P s i o t (m + 1)] (hx : ev l x = some (.pointer (some (elA a j)))) (hj : j + o < cs.length) : RD P l (.fieldAddr s x i) ty (rowR a cs) (.pointer (some (elA a (j + o)))) := by
  obtain ⟨fs, f, h1, h2, h3, h4, h5⟩ := f.h
  exact RD_fieldAddrO o (fun w => run_underlying h1 w) h2 (by rw [h3]; exact Nat.beq_refl o) (by rw [h4]; exact h5) hx (by omega)
theorem RD_fld {x : Operand} {s i o m : Nat} {t : TypeId} {cs : Array Value} [f : FI P s i o t m] [a : AI P t false] (hx : ev l x = some (.agg cs)) (hv : cs[o]? = some v) : RD P l (.field s x i) ty RU v := by
  obtain ⟨fs, f, h1, h2, h3, h4, h5⟩ := f.h
  exact RD_field (fun w => run_underlying h1 w) h2 (by rw [h4]; exact a.h) hx (by rw [h3]; exact hv)
/-- A step that turns one block. -/
theorem SR_st {x y : Operand} {t b off : Nat} {cs cs' : List Value} {T : TypeId} [z : SI P t 1] (hx : ev l x = some (.pointer (some ⟨b, off, none⟩))) (hy : ev l y = some v) [ho : One v] [tp : TakePt L b (.cells cs.toArray T) R] [s : SetAt cs off v cs']
    (h : SR W P n ops os k l (pt b (.cells cs'.toArray T) :: R)) : SR W P n ops (⟨none, .store t x y, ty, pos, after, none⟩ :: os) k l L :=
  SR_ox0 (OX_st z.h hx hy) fun _ _ e => by rw [e]; exact h
theorem SR_box {x : Operand} {t : TypeId} {cs : List Value} (hx : ev l x = some v) (hc : v.cells = cs.toArray) (hd : Nat.blt d n = true) (h : ∀ b, SR W P n ops os k ((d, .pointer (some ⟨b, 0, none⟩)) :: l) (pt b (.cells cs.toArray t) :: L)) :
    SR W P n ops (⟨some d, .box t x, ty, pos, after, none⟩ :: os) k l L := SR_ox (OX_box hx hc) hd fun _ _ ⟨b, e, e'⟩ => by rw [e, e']; exact h b
theorem SR_al {t : TypeId} {z : Value} {cs : List Value} [zi : ZI P t z] (hc : z.cells = cs.toArray) (hd : Nat.blt d n = true) (h : ∀ b, SR W P n ops os k ((d, .pointer (some ⟨b, 0, none⟩)) :: l) (pt b (.cells cs.toArray t) :: L)) :
    SR W P n ops (⟨some d, .alloc t, ty, pos, after, none⟩ :: os) k l L := SR_ox (OX_alloc zi.h hc) hd fun _ _ ⟨b, e, e'⟩ => by rw [e, e']; exact h b
/-- A call whose answer is known, what it leaves too. -/
theorem SR_cl {f : FuncId} {xs : Array Operand} {ats : Array TypeId} {args : Array Value} {dst : Option Tmp} [c : CI P f] (hargs : EvA l xs.toList args.toList) (hc : CallsK W P f args L (fun v L' => v = u ∧ Lands L' M)) (hd : ∀ d, dst = some d → d < n)
    (h : SR W P n ops os k (putE dst u l) M) : SR W P n ops (⟨dst, .call ⟨.value (.func f), xs, ats⟩, ty, pos, after, none⟩ :: os) k l L :=
  SR_call c.h hargs hc hd fun _ _ ⟨e, e'⟩ => by rw [e]; exact SR.lands e' h
theorem SR_ce {f : FuncId} {xs : Array Operand} {ats : Array TypeId} {args : Array Value} {K : Value → List HProp → Prop} {dst : Option Tmp} [c : CI P f] (hargs : EvA l xs.toList args.toList) (hc : CallsK W P f args L K) (hd : ∀ d, dst = some d → d < n)
    (h : ∀ v L', K v L' → SR W P n ops os k (putE dst v l) L') : SR W P n ops (⟨dst, .call ⟨.value (.func f), xs, ats⟩, ty, pos, after, none⟩ :: os) k l L :=
  SR_call c.h hargs hc hd h
end
/-! ### Drawn regions: the plan by a row of numbers -/
inductive PO where
  | r (i : Nat)
  | e (i : Nat)
def pl : List PO → Ord
  | [] => .nil
  | .r i :: t => .cons i true (pl t)
  | .e i :: t => .cons i false (pl t)
section
variable {W : World} {P : Program} {n : Nat} {k k' : Kont} {l l' : Env} {L L' M R : List HProp} {ops : Array Oper} {os : List Oper} {op : Op} {ty : TypeId} {pos : String} {after : Array Edge} {v u : Value} {d i : Nat} {r : Ord} {Ts : Facts}
theorem SQ_st {x y : Operand} {t b off : Nat} {cs cs' : List Value} {T : TypeId} [z : SI P t 1] (hi : ops[i]? = some ⟨none, .store t x y, ty, pos, after, none⟩) (hx : ev l x = some (.pointer (some ⟨b, off, none⟩))) (hy : ev l y = some v) [ho : One v] [tp : TakePt L b (.cells cs.toArray T) R] [s : SetAt cs off v cs']
    (hk : Keeps W ops i (pt b (.cells cs'.toArray T) :: R) Ts) (h : SQ W P n ops r Ts k l (pt b (.cells cs'.toArray T) :: R)) : SQ W P n ops (.cons i false r) Ts k l L :=
  SQ_ox0 hi (OX_st z.h hx hy) fun _ _ e => by rw [e]; exact ⟨hk, h⟩
end
/-- Two rows of cells that are one. -/
class CEq (a : List Value) (b : List Value) : Prop where
  h : a = b
instance CEq.rfl {a : List Value} : CEq a a := ⟨Eq.refl a⟩
theorem TakePt.A {L R : List HProp} {b : Nat} {cs ds : List Value} {T : TypeId} (t : TakePt L b (.cells cs.toArray T) R) (e : CEq cs ds) : L.Perm (pt b (.cells ds.toArray T) :: R) := by rw [← e.h]; exact t.perm
end Go.Proofs.YtdhpjdhloaoepaaGreat
