/- Maps: entries with keys of one kind, as a list of pairs; and small things of the walk. -/
import Derived.Test.YtmigjpmadhebfaaSl8
namespace Go.Proofs.Ytmigjpmadhebfaa
open Go

/-- What a map answers. -/
def mget {α β : Type} [DecidableEq α] (m : List (α × β)) (k : α) : Option β :=
  match m with
  | [] => none
  | (a, b) :: r => if k = a then some b else mget r k
def mset {α β : Type} [DecidableEq α] (m : List (α × β)) (k : α) (v : β) : List (α × β) :=
  match m with
  | [] => [(k, v)]
  | (a, b) :: r => if k = a then (k, v) :: r else (a, b) :: mset r k v
section
variable {α β : Type} [DecidableEq α]
theorem mget_mset (m : List (α × β)) (k j : α) (v : β) : mget (mset m k v) j = if j = k then some v else mget m j := by
  induction m with
  | nil => simp [mset, mget]
  | cons p r ih =>
    obtain ⟨a, b⟩ := p
    by_cases h : k = a
    · subst h
      by_cases hj : j = k
      · subst hj; simp [mset, mget]
      · simp [mset, mget, hj]
    · by_cases hj : j = k
      · subst hj; simp [mset, mget, h, ih]
      · by_cases ha : j = a
        · subst ha; simp [mset, mget, h, hj]
        · simp [mset, mget, h, ha, hj, ih]
theorem mset_length (m : List (α × β)) (k : α) (v : β) : (mset m k v).length = if (mget m k).isSome then m.length else m.length + 1 := by
  induction m with
  | nil => simp [mset, mget]
  | cons p r ih =>
    obtain ⟨a, b⟩ := p
    by_cases h : k = a
    · simp [mset, mget, h]
    · simp only [mset, mget, h, if_false, List.length_cons, ih]; split <;> rfl
end

/-- A kind of keys: how a key stands, and that the model tells keys apart. -/
structure Keyed (α : Type) [DecidableEq α] where
  val : α → Value
  desc : TypeDesc
  same : ∀ a b, Instr.sameNow desc (val a) (val b) = some (decide (a = b))
  check : ∀ (P : Program) (t : TypeId) (e : Bool) (n : Nat) (a : α) (w : World), P.underlying t = some desc → (Instr.checkKey e (n + 1) t (val a)).run P w = .ok () w
  bits : ∀ a n, Instr.sameBits n (val a) (val a) = true
def intK : Keyed Int where
  val := intV
  desc := .int .i64
  same a b := by simp [Instr.sameNow, intV]; rfl
  check P t e n a w h := by simp [Instr.checkKey, underlying, h, intV]
  bits a n := by simp [Instr.sameBits, intV]
def strK : Keyed ByteArray where
  val := Value.string
  desc := .string
  same a b := by
    have : (a == b) = decide (a = b) := by rw [beq_toListBytes, beqBytes]
    simp [Instr.sameNow, this]
  check P t e n a w h := by simp [Instr.checkKey, underlying, h]
  bits a n := by
    have : (a == a) = true := by rw [beq_toListBytes]; simp
    simp [Instr.sameBits, this]

/-- A map of one's own. -/
def mapP {α : Type} [DecidableEq α] (K : Keyed α) (b : Nat) (m : List (α × Value)) : HProp := fun h =>
  ∃ es ck, pt b (.map es ck) h ∧ es.toList.map (fun e => (e.key, e.val)) = m.map fun p => (K.val p.1, p.2)
/-- One may read it. -/
def mapF {α : Type} [DecidableEq α] (K : Keyed α) (b : Nat) (m : List (α × Value)) : Hp → Prop := fun h =>
  ∃ es ck, h b = some (.map es ck) ∧ es.toList.map (fun e => (e.key, e.val)) = m.map fun p => (K.val p.1, p.2)

section
variable {W : World} {P : Program} {l : Env} {ty : TypeId} {L R F : List HProp} {v : Value} {α : Type} [DecidableEq α] {K : Keyed α}
theorem mapF.up {b : Nat} {m : List (α × Value)} : Up (mapF K b m) := fun _ _ s ⟨es, ck, e, x⟩ => ⟨es, ck, s _ _ e, x⟩
theorem mapP_new {b : Nat} {h : Hp} (H : pt b (.map #[] 0) h) : mapP K b [] h := ⟨#[], 0, H, rfl⟩
theorem Has.mapP {i b : Nat} {m : List (α × Value)} (hi : L[i]? = some (mapP K b m)) : Has W L (mapF K b m) := fun w hw => by
  have : pick i L = Go.Proofs.Ytmigjpmadhebfaa.mapP K b m :: L.eraseIdx i := by simp [pick, hi]
  have hw := this ▸ hw.perm (pick_perm i L)
  obtain ⟨h1, ⟨es, ck, hp, hx⟩, s⟩ := Den_head hw.2.2.2
  exact ⟨es, ck, s _ _ (pt_get hp), hx⟩

theorem findNow_spec (k : α) : ∀ (es : List MapEntry) (m : List (α × Value)) (i : Nat), es.map (fun e => (e.key, e.val)) = m.map (fun p => (K.val p.1, p.2)) →
    ∃ r, Instr.findNow K.desc (K.val k) es i = some r ∧ r.map (·.2) = mget m k ∧
      (∀ v, (r = none → m.map (fun p => (K.val p.1, p.2)) ++ [(K.val k, v)] = (mset m k v).map (fun p => (K.val p.1, p.2))) ∧
        ∀ j u, r = some (j, u) → i ≤ j ∧ (es[j - i]?).map (·.key) = some (K.val k) ∧ (m.map (fun p => (K.val p.1, p.2))).set (j - i) (K.val k, v) = (mset m k v).map (fun p => (K.val p.1, p.2)))
  | [], m, i, h => by
    cases m with
    | nil => exact ⟨none, rfl, rfl, fun v => ⟨fun _ => rfl, fun _ _ h => by cases h⟩⟩
    | cons => cases h
  | e :: es, m, i, h => by
    cases m with
    | nil => cases h
    | cons p m =>
      obtain ⟨a, b⟩ := p
      simp only [List.map_cons, List.cons.injEq, Prod.mk.injEq] at h
      obtain ⟨⟨h1, h2⟩, h3⟩ := h
      simp only [Instr.findNow, h1, K.same]
      by_cases hk : k = a
      · subst hk
        simp only [decide_true]
        refine ⟨_, rfl, by simp [mget, h2], fun v => ⟨fun h => by simp at h, ?_⟩⟩
        intro j u hj
        simp at hj
        obtain ⟨rfl, rfl⟩ := hj
        simp [mset, h1]
      · simp only [hk, decide_false]
        obtain ⟨r, hr, hm, hall⟩ := findNow_spec k es m (i + 1) h3
        refine ⟨r, hr, by simp [mget, hk, hm], fun v => ⟨fun hn => ?_, ?_⟩⟩
        · have := (hall v).1 hn
          simp [mset, hk, ← this]
        · intro j u hj
          obtain ⟨g1, g2, g3⟩ := (hall v).2 j u hj
          have : j - i = (j - (i + 1)) + 1 := by omega
          rw [this]
          refine ⟨by omega, by simpa using g2, ?_⟩
          simp [mset, hk, ← g3]

theorem run_findKey {t : TypeId} (ht : P.underlying t = some K.desc) {es : List MapEntry} {k : α} {r : Option (Nat × Value)} (h : Instr.findNow K.desc (K.val k) es 0 = some r) (w : World) :
    (Instr.findKey t (K.val k) es).run P w = .ok r w := by
  simp [Instr.findKey, run_underlying ht, h]

theorem RD_lookup {x y : Operand} {t kt et b : Nat} {m : List (α × Value)} {k : α} {z : Value} (hu : P.underlying t = some (.map kt et)) (hk : P.underlying kt = some K.desc) (hz : ∀ w, (zeroValue et).run P w = .ok z w)
    (hx : ev l x = some (.map (some b))) (hy : ev l y = some (K.val k)) : RD P l (.lookup t x y false) ty (mapF K b m) ((mget m k).getD z) := fun ρ hρ w hR _ _ _ _ => by
  obtain ⟨es, ck, hb, hes⟩ := hR
  obtain ⟨r, hr, hm, _⟩ := findNow_spec k es.toList m 0 hes
  have hf := run_findKey hk hr w
  have hg : (getObj b).run P w = .ok (.map es ck) w := by simp only at hb; simp [getObj, Sem.run, hb]
  have hc := K.check P kt es.isEmpty 9999 k w hk
  rw [← hm]
  cases r with
  | none => simp [execOp, hρ x _ hx, hρ y _ hy, Instr.lookup, run_underlying hu, hg, hc, hf, hz]
  | some p => simp [execOp, hρ x _ hx, hρ y _ hy, Instr.lookup, run_underlying hu, hg, hc, hf]
theorem RD_lookup2 {x y : Operand} {t kt et b : Nat} {m : List (α × Value)} {k : α} {z : Value} (hu : P.underlying t = some (.map kt et)) (hk : P.underlying kt = some K.desc) (hz : ∀ w, (zeroValue et).run P w = .ok z w)
    (hx : ev l x = some (.map (some b))) (hy : ev l y = some (K.val k)) : RD P l (.lookup t x y true) ty (mapF K b m) (.tuple #[(mget m k).getD z, .bool (mget m k).isSome]) := fun ρ hρ w hR _ _ _ _ => by
  obtain ⟨es, ck, hb, hes⟩ := hR
  obtain ⟨r, hr, hm, _⟩ := findNow_spec k es.toList m 0 hes
  have hf := run_findKey hk hr w
  have hg : (getObj b).run P w = .ok (.map es ck) w := by simp only at hb; simp [getObj, Sem.run, hb]
  have hc := K.check P kt es.isEmpty 9999 k w hk
  rw [← hm]
  cases r with
  | none => simp [execOp, hρ x _ hx, hρ y _ hy, Instr.lookup, run_underlying hu, hg, hc, hf, hz]
  | some p => simp [execOp, hρ x _ hx, hρ y _ hy, Instr.lookup, run_underlying hu, hg, hc, hf]
/-- A nil map answers nothing. -/
theorem RD_lookupN {x y : Operand} {t kt et : Nat} {k : α} {z : Value} (hu : P.underlying t = some (.map kt et)) (hk : P.underlying kt = some K.desc) (hz : ∀ w, (zeroValue et).run P w = .ok z w)
    (hx : ev l x = some (.map none)) (hy : ev l y = some (K.val k)) : RD P l (.lookup t x y false) ty RU z := fun ρ hρ w _ _ _ _ _ => by
  have hf := run_findKey (K := K) (P := P) (es := []) (k := k) hk (r := none) rfl w
  have hc := K.check P kt true 9999 k w hk
  simp [execOp, hρ x _ hx, hρ y _ hy, Instr.lookup, run_underlying hu, hc, hf, hz]
theorem RD_lenM {x : Operand} {t kt et b : Nat} {m : List (α × Value)} (hu : P.underlying t = some (.map kt et)) (hx : ev l x = some (.map (some b))) : RD P l (.call ⟨.builtin .len, #[x], #[t]⟩) ty (mapF K b m) (.int .i64 m.length) := fun ρ hρ w hR _ _ _ _ => by
  obtain ⟨es, ck, hb, hes⟩ := hR
  have hg : (getObj b).run P w = .ok (.map es ck) w := by simp only at hb; simp [getObj, Sem.run, hb]
  have hl : es.size = m.length := by have := congrArg List.length hes; simpa using this
  simp [execOp, resolve, hρ x _ hx, invoke, builtin, Builtin.len_, run_underlying hu, hg, goInt, hl]

theorem run_mapUpdate {t kt et b : Nat} {m : List (α × Value)} {k : α} {v : Value} (hu : P.underlying t = some (.map kt et)) (hk : P.underlying kt = some K.desc) {w : World} (hw : Sat W (mapP K b m :: R) w) :
    ∃ w', (Instr.mapUpdate t (.map (some b)) (K.val k) v).run P w = .ok () w' ∧ Sat W (mapP K b (mset m k v) :: R) w' := by
  obtain ⟨h1, h2, hd, he, ⟨es, ck, hp, hes⟩, hr⟩ := hw.2.2.2
  have hw' : Sat W (pt b (.map es ck) :: R) w := ⟨hw.1, hw.2.1, hw.2.2.1, h1, h2, hd, he, hp, hr⟩
  have hb := hw'.get
  have hg : (getObj b).run P w = .ok (.map es ck) w := by simp [getObj, Sem.run, hb]
  have hset : ∀ o w, Sat W (pt b (.map es ck) :: R) w → (setObj b o).run P w = .ok () { w with heap := w.heap.setIfInBounds b o } := fun o w hw => by simp [setObj, Sem.run, hw.get]
  obtain ⟨r, hrr, _, hall⟩ := findNow_spec k es.toList m 0 hes
  have hf := run_findKey hk hrr w
  have hc := K.check P kt false 9999 k w hk
  have fin : ∀ es' ck', es'.toList.map (fun e => (e.key, e.val)) = (mset m k v).map (fun p => (K.val p.1, p.2)) → Sat W (mapP K b (mset m k v) :: R) { w with heap := w.heap.setIfInBounds b (.map es' ck') } := fun es' ck' h =>
    (hw'.setObj (o' := .map es' ck')).imp fun q ⟨q1, q2, qd, qe, qp, qr⟩ => ⟨q1, q2, qd, qe, ⟨es', ck', qp, h⟩, qr⟩
  cases r with
  | none =>
    refine ⟨_, ?_, fin (es.push { key := K.val k, val := v, born := ck }) (ck + 1) ?_⟩
    · simp [Instr.mapUpdate, run_underlying hu, hg, hc, hf, hset _ w hw']
    · have := (hall v).1 rfl
      simp [hes, this]
  | some p =>
    obtain ⟨j, u⟩ := p
    obtain ⟨_, g2, g3⟩ := (hall v).2 j u rfl
    simp only [Nat.sub_zero] at g2 g3
    have hkey : ((es[j]?).map (·.key)).getD (K.val k) = K.val k := by
      have : (es[j]?).map (·.key) = some (K.val k) := by simpa using g2
      rw [this]; rfl
    refine ⟨_, ?_, fin (es.modify j fun e => { e with key := K.val k, val := v }) ck ?_⟩
    · simp [Instr.mapUpdate, run_underlying hu, hg, hc, hf, hkey, Instr.keyThatStays, K.bits, hset _ w hw']
    · rw [← g3, ← hes]
      apply List.ext_getElem?
      intro i
      simp only [List.getElem?_map, Array.getElem?_toList, Array.getElem?_modify, List.getElem?_set]
      by_cases hij : j = i
      · subst hij
        have hj : j < es.size := by
          rcases Nat.lt_or_ge j es.size with h | h
          · exact h
          · simp [Array.getElem?_eq_none h] at g2
        simp [hj]
      · simp [hij]
theorem OX_mapUpdate {x y z : Operand} {t kt et b : Nat} {m : List (α × Value)} {k : α} {v : Value} (hu : P.underlying t = some (.map kt et)) (hk : P.underlying kt = some K.desc)
    (hx : ev l x = some (.map (some b))) (hy : ev l y = some (K.val k)) (hz : ev l z = some v) :
    OX W P l (mapP K b m :: R) (.mapUpdate t x y z) ty (fun _ L' => L' = mapP K b (mset m k v) :: R) := fun ρ hρ w hw _ _ _ _ => by
  obtain ⟨w', hr, hS⟩ := run_mapUpdate (k := k) (v := v) hu hk hw
  exact ⟨.skip, w', undef, _, by simp [execOp, hρ x _ hx, hρ y _ hy, hρ z _ hz, hr], .inr ⟨rfl, rfl⟩, rfl, hS⟩
theorem OX_insert {x y z : Operand} {t kt et b : Nat} {m : List (α × Value)} {k : α} {v : Value} (hu : P.underlying t = some (.map kt et)) (hk : P.underlying kt = some K.desc)
    (hx : ev l x = some (.map (some b))) (hy : ev l y = some (K.val k)) (hz : ev l z = some v) :
    OX W P l (mapP K b m :: R) (.insert t x y z) ty (fun _ L' => L' = mapP K b (mset m k v) :: R) := fun ρ hρ w hw _ _ _ _ => by
  obtain ⟨w', hr, hS⟩ := run_mapUpdate (k := k) (v := v) hu hk hw
  exact ⟨.skip, w', undef, _, by simp [execOp, hρ x _ hx, hρ y _ hy, hρ z _ hz, hr], .inr ⟨rfl, rfl⟩, rfl, hS⟩
end
end Go.Proofs.Ytmigjpmadhebfaa
