/- Arguments read with their sizes: no slice that came in is longer than a machine bears. -/
import Derived.Test.YtmigjpmadhebfaaSl13
import Derived.SizedLaws
namespace Go.Proofs.Ytmigjpmadhebfaa
open Go Go.ChangeShapes Go.WideShapes
section
variable {H : Type} {enc : TypeId × Value → H} {P : Program} {W : World} {t e : TypeId} {cs : List Value} {v : Value} {d : DataW H} {p : List MemPlace} {base : Nat}
def RdbZ (enc : TypeId × Value → H) (P : Program) (W : World) (t : TypeId) (cs : List Value) : Prop := ∃ fuel x, DataW.trod enc P W 0 (fun _ => true) true fuel t cs = some x ∧ ∀ n ∈ x.1.weights P t, n ≤ reachBytes
theorem RdbZ.of (h : DataW.Trod enc P W 0 (fun _ => true) true t v d p) (hz : ∀ n ∈ d.weights P t, n ≤ reachBytes) : RdbZ enc P W t v.cells.toList := by
  obtain ⟨f, h⟩ := h
  exact ⟨f, _, h, hz⟩
theorem RdbZ.rd (h : RdbZ enc P W t cs) : Rdb enc P W t cs := by
  obtain ⟨f, x, h, _⟩ := h
  exact ⟨f, x, h⟩
theorem weights_all {l : List (DataW H)} {i : Nat} {x : DataW H} (h : l[i]? = some x) {n : Nat} (hn : n ∈ x.weights P e) : n ∈ DataW.weightsAll P e l := by
  induction l generalizing i with
  | nil => simp at h
  | cons y l ih =>
    simp only [DataW.weightsAll, List.mem_append]
    cases i with
    | zero => simp at h; subst h; exact .inl hn
    | succ i => exact .inr (ih (by simpa using h))
theorem RdbZ.slice (ht : P.underlying t = some (.slice e)) (h : RdbZ enc P W t cs) :
    cs = [.slice none 0 0] ∨ ∃ x n c, cs = [.slice (some x) n c] ∧ n ≤ c ∧ c ≤ maxLen ∧ n * P.bytesOf e ≤ reachBytes ∧ ∀ j, j < n → ∃ r : List Value, r.length = P.cellsOf e ∧ (∀ i, i < P.cellsOf e → W.cell? (x.add (j * P.cellsOf e + i)) = r[i]?) ∧ RdbZ enc P W e r := by
  obtain ⟨f, y, h, hz⟩ := h
  rcases DataW.trod_slice ht h with ⟨h0, _⟩ | ⟨a, len, cap, elems, rest, n, _, hcs, hx, _, hl, hm, hlen, hel, _⟩
  · exact .inl h0
  · subst hx
    refine .inr ⟨a, len, cap, hcs, hl, hm, ?_, fun j hj => ?_⟩
    · have := hz ((elems.map (·.1)).length + (rest.map (·.1)).length |>.mul (P.bytesOf e)) (by simp only [DataW.weights, ht]; exact List.mem_cons_self)
      have h2 : len * P.bytesOf e ≤ ((elems.map (·.1)).length + (rest.map (·.1)).length) * P.bytesOf e := Nat.mul_le_mul_right _ (by rw [List.length_map, hlen]; omega)
      exact Nat.le_trans h2 this
    · have h1 := hel j hj
      rw [List.getElem?_eq_getElem (by omega)] at h1
      obtain ⟨r, h2, h3⟩ := Option.bind_eq_some_iff.1 h1
      obtain ⟨_, h4, h5⟩ := World.cells?_some h2
      refine ⟨r, h4, fun i hi => ?_, ⟨n, _, h3, fun m hm => hz m ?_⟩⟩
      · rw [← h5 i hi, add_add]
      · simp only [DataW.weights, ht, List.mem_cons, List.mem_append]
        exact .inr (.inl (weights_all (i := j) (x := (elems[j]'(by omega)).1) (by rw [List.getElem?_map, List.getElem?_eq_getElem (by omega)]; rfl) hm))
theorem RdbZ.row1 {Y : Type} {f : Y → Value} {Q : Y → Prop} (ht : P.underlying t = some (.slice e)) (hc : P.cellsOf e = 1)
    (hY : ∀ r, RdbZ enc P W e r → ∃ y, r = [f y] ∧ Q y) (h : RdbZ enc P W t cs) :
    ∃ a n c, ∃ l : List Y, cs = [.slice a n c] ∧ n ≤ c ∧ c ≤ maxLen ∧ n * P.bytesOf e ≤ reachBytes ∧ l.length = n ∧ (∀ y ∈ l, Q y) ∧ HasRow [junk, old W] a (l.map f) := by
  have e2 (l : List Y) : l.flatMap (fun y => [f y]) = l.map f := by induction l <;> simp_all
  rcases h.slice ht with rfl | ⟨x, n, c, rfl, h1, h2, hz, h3⟩
  · exact ⟨none, 0, 0, [], rfl, Nat.le_refl _, by decide, by simp, rfl, (fun _ h => nomatch h), HasRow.nil⟩
  · rw [hc] at h3
    obtain ⟨l, hl, hq⟩ := list_choose (Q := fun j y => Q y ∧ ∀ i, i < 1 → W.cell? (x.add (j * 1 + i)) = [f y][i]?) n fun j hj => by
      obtain ⟨r, _, h5, h6⟩ := h3 j hj
      obtain ⟨y, rfl, hy⟩ := hY r h6
      exact ⟨y, hy, h5⟩
    refine ⟨some x, n, c, l, rfl, h1, h2, hz, hl, fun y hy => ?_, ?_⟩
    · obtain ⟨j, hj⟩ := List.getElem?_of_mem hy
      exact (hq j y hj).1
    · rw [← e2]
      exact hasRow_old (rowR_of (flat_cells (f := fun y => [f y]) (k := 1) (fun _ => rfl) l x fun j y hj => (hq j y hj).2))
theorem RdbZ.bss {b : TypeId} (ht : P.underlying t = some (.slice e)) (hc : P.cellsOf e = 1) (he : P.underlying e = some (.slice b)) (hb : P.underlying b = some (.int .u8)) (hbc : P.cellsOf b = 1) (hbb : P.bytesOf b = 1) (h : RdbZ enc P W t cs) :
    ∃ a n c, ∃ l : List BSl, cs = [.slice a n c] ∧ n ≤ c ∧ c ≤ maxLen ∧ l.length = n ∧ (∀ y ∈ l, y.Ok [junk, old W] ∧ y.n ≤ 140737488355328) ∧ HasRow [junk, old W] a (l.map BSl.val) := by
  obtain ⟨a, n, c, l, h1, h2, h3, _, h4, h5, h6⟩ := RdbZ.row1 (f := BSl.val) (Q := fun y => y.Ok [junk, old W] ∧ y.n ≤ 140737488355328) ht hc (fun r hr => by
    obtain ⟨a, n, c, bs, rfl, _, _, hz, h3, _, h4⟩ := RdbZ.row1 (f := byteV) (Q := fun _ => True) he hbc (fun r hr => by
      obtain ⟨m, rfl, hw⟩ := hr.rd.int hb
      have := Go.bounds_u8 hw
      refine ⟨UInt8.ofNat m.toNat, ?_, trivial⟩
      simp [byteV]
      omega) hr
    refine ⟨⟨a, n, c, bs⟩, rfl, ⟨h3, h4⟩, ?_⟩
    rw [hbb] at hz
    have := reachBytes_lt
    show n ≤ _
    omega) h
  exact ⟨a, n, c, l, h1, h2, h3, h4, h5, h6⟩
end
end Go.Proofs.Ytmigjpmadhebfaa
