/- What an argument's reading gives a walk: its numbers, its texts, its rows. -/
import Derived.Test.YtmigjpmadhebfaaSl11
import Derived.OpenShut
import Derived.ShutString
import Derived.ChangeOld
namespace Go.Proofs.Ytmigjpmadhebfaa
open Go Go.ChangeShapes Go.WideShapes
section
variable {H : Type} {enc : TypeId × Value → H} {P : Program} {W : World} {t e : TypeId} {cs : List Value} {v : Value} {d : DataW H} {p : List MemPlace} {base : Nat}
/-- The cells read as data of a type. -/
def Rdb (enc : TypeId × Value → H) (P : Program) (W : World) (t : TypeId) (cs : List Value) : Prop := ∃ fuel x, DataW.trod enc P W 0 (fun _ => true) true fuel t cs = some x
theorem Rdb.of (h : DataW.Trod enc P W 0 (fun _ => true) true t v d p) : Rdb enc P W t v.cells.toList := by
  obtain ⟨f, h⟩ := h
  exact ⟨f, _, h⟩
theorem Rdb.int {k : IntKind} (ht : P.underlying t = some (.int k)) (h : Rdb enc P W t cs) : ∃ n, cs = [.int k n] ∧ (Lit.int k n).wf = true := by
  obtain ⟨f, x, h⟩ := h
  obtain ⟨n, h1, _, h2⟩ := DataW.trod_int ht h
  exact ⟨n, h1, h2⟩
theorem Rdb.bool (ht : P.underlying t = some .bool) (h : Rdb enc P W t cs) : ∃ b, cs = [.bool b] := by
  obtain ⟨f, x, h⟩ := h
  obtain ⟨n, h1, _⟩ := DataW.trod_bool ht h
  exact ⟨n, h1⟩
theorem Rdb.str (ht : P.underlying t = some .string) (h : Rdb enc P W t cs) : ∃ s : ByteArray, cs = [.string s] ∧ s.size ≤ maxLen := by
  obtain ⟨f, x, h⟩ := h
  obtain ⟨n, h1, _, h2⟩ := DataW.trod_string ht h
  exact ⟨n, h1, h2⟩
theorem Rdb.agg {fs : Array Field} (ht : P.underlying t = some (.struct fs)) (h : Rdb enc P W t cs) :
    cs.length = P.cellsOf t ∧ ∀ (i : Nat) (f : Field), fs[i]? = some f → Rdb enc P W f.type ((cs.drop f.offset).take (P.cellsOf f.type)) := by
  obtain ⟨f, x, h⟩ := h
  obtain ⟨xs, n, _, _, h1, h2, h3⟩ := DataW.trod_struct ht h
  refine ⟨h1, fun i f hf => ?_⟩
  have hi : i < xs.length := by rw [h2]; exact (Array.getElem?_eq_some_iff.1 hf).1
  exact ⟨n, _, (h3 i f hf).trans (List.getElem?_eq_getElem hi)⟩
theorem add_add (x : Addr) (i j : Nat) : (x.add i).add j = x.add (i + j) := by
  obtain ⟨b, o, s⟩ := x
  by_cases hi : i = 0
  · subst hi; simp [Addr.add]
  · by_cases hj : j = 0
    · subst hj; simp [Addr.add]
    · simp [Addr.add, hi, hj, Nat.add_assoc]
theorem Rdb.slice (ht : P.underlying t = some (.slice e)) (h : Rdb enc P W t cs) :
    cs = [.slice none 0 0] ∨ ∃ x n c, cs = [.slice (some x) n c] ∧ n ≤ c ∧ c ≤ maxLen ∧ ∀ j, j < n → ∃ r : List Value, r.length = P.cellsOf e ∧ (∀ i, i < P.cellsOf e → W.cell? (x.add (j * P.cellsOf e + i)) = r[i]?) ∧ Rdb enc P W e r := by
  obtain ⟨f, y, h⟩ := h
  rcases DataW.trod_slice ht h with ⟨h0, _⟩ | ⟨a, len, cap, elems, rest, n, _, hcs, _, _, hl, hm, hlen, hel, _⟩
  · exact .inl h0
  · refine .inr ⟨a, len, cap, hcs, hl, hm, fun j hj => ?_⟩
    have h1 := hel j hj
    rw [List.getElem?_eq_getElem (by omega)] at h1
    obtain ⟨r, h2, h3⟩ := Option.bind_eq_some_iff.1 h1
    obtain ⟨_, h4, h5⟩ := World.cells?_some h2
    refine ⟨r, h4, fun i hi => ?_, ⟨n, _, h3⟩⟩
    rw [← h5 i hi, add_add]
theorem list_choose {Y : Type} {Q : Nat → Y → Prop} : ∀ n : Nat, (∀ j, j < n → ∃ y, Q j y) → ∃ l : List Y, l.length = n ∧ ∀ j y, l[j]? = some y → Q j y
  | 0, _ => ⟨[], rfl, fun j y h => by simp at h⟩
  | n + 1, h => by
    obtain ⟨l, h1, h2⟩ := list_choose n fun j hj => h j (by omega)
    obtain ⟨y, hy⟩ := h n (by omega)
    refine ⟨l ++ [y], by simp [h1], fun j z hz => ?_⟩
    by_cases hj : j < n
    · exact h2 j z (by rwa [List.getElem?_append_left (by omega)] at hz)
    · rw [List.getElem?_append_right (by omega)] at hz
      have : j - l.length = 0 := by
        have := (List.getElem?_eq_some_iff.1 hz).1
        simp at this; omega
      rw [this] at hz
      simp at hz
      obtain rfl : j = n := by omega
      exact hz ▸ hy
theorem flat_cells {Y : Type} {f : Y → List Value} {k : Nat} (hf : ∀ y, (f y).length = k) : ∀ (l : List Y) (x : Addr), (∀ j y, l[j]? = some y → ∀ i, i < k → W.cell? (x.add (j * k + i)) = (f y)[i]?) →
    ∀ q v, (l.flatMap f)[q]? = some v → W.cell? (x.add q) = some v
  | [], _, _, q, v, h => by simp at h
  | y :: l, x, hl, q, v, h => by
    rw [List.flatMap_cons] at h
    by_cases hq : q < k
    · rw [List.getElem?_append_left (by rw [hf]; exact hq)] at h
      have := hl 0 y rfl q hq
      rw [h] at this
      simpa using this
    · rw [List.getElem?_append_right (by rw [hf]; omega), hf] at h
      have := flat_cells hf l (x.add k) (fun j z hz i hi => by
        rw [add_add, ← hl (j + 1) z (by simpa using hz) i hi]
        congr 2
        rw [Nat.add_mul]; omega) (q - k) v h
      rw [add_add] at this
      rwa [show k + (q - k) = q by omega] at this
/-- A slice whose elements take k cells each. -/
theorem Rdb.rowk {Y : Type} {f : Y → List Value} {k : Nat} {Q : Y → Prop} (hf : ∀ y, (f y).length = k) (ht : P.underlying t = some (.slice e)) (hc : P.cellsOf e = k)
    (hY : ∀ r, Rdb enc P W e r → ∃ y, r = f y ∧ Q y) (h : Rdb enc P W t cs) :
    ∃ a n c, ∃ l : List Y, cs = [.slice a n c] ∧ n ≤ c ∧ c ≤ maxLen ∧ l.length = n ∧ (∀ y ∈ l, Q y) ∧ HasRow [junk, old W] a (l.flatMap f) := by
  rcases h.slice ht with rfl | ⟨x, n, c, rfl, h1, h2, h3⟩
  · exact ⟨none, 0, 0, [], rfl, Nat.le_refl _, by decide, rfl, (fun _ h => nomatch h), HasRow.nil⟩
  · rw [hc] at h3
    obtain ⟨l, hl, hq⟩ := list_choose (Q := fun j y => Q y ∧ ∀ i, i < k → W.cell? (x.add (j * k + i)) = (f y)[i]?) n fun j hj => by
      obtain ⟨r, _, h5, h6⟩ := h3 j hj
      obtain ⟨y, rfl, hy⟩ := hY r h6
      exact ⟨y, hy, h5⟩
    refine ⟨some x, n, c, l, rfl, h1, h2, hl, fun y hy => ?_, hasRow_old (rowR_of (flat_cells hf l x fun j y hj => (hq j y hj).2))⟩
    obtain ⟨j, hj⟩ := List.getElem?_of_mem hy
    exact (hq j y hj).1
/-- .. one cell each. -/
theorem Rdb.row1 {Y : Type} {f : Y → Value} {Q : Y → Prop} (ht : P.underlying t = some (.slice e)) (hc : P.cellsOf e = 1)
    (hY : ∀ r, Rdb enc P W e r → ∃ y, r = [f y] ∧ Q y) (h : Rdb enc P W t cs) :
    ∃ a n c, ∃ l : List Y, cs = [.slice a n c] ∧ n ≤ c ∧ c ≤ maxLen ∧ l.length = n ∧ (∀ y ∈ l, Q y) ∧ HasRow [junk, old W] a (l.map f) := by
  have := Rdb.rowk (f := fun y => [f y]) (Q := Q) (fun _ => rfl) ht hc hY h
  have e (l : List Y) : l.flatMap (fun y => [f y]) = l.map f := by induction l <;> simp_all
  simpa only [e] using this
theorem Rdb.bytes (ht : P.underlying t = some (.slice e)) (he : P.underlying e = some (.int .u8)) (hc : P.cellsOf e = 1) (h : Rdb enc P W t cs) :
    ∃ a n c, ∃ bs : List UInt8, cs = [.slice a n c] ∧ n ≤ c ∧ c ≤ maxLen ∧ bs.length = n ∧ HasRow [junk, old W] a (bs.map byteV) := by
  obtain ⟨a, n, c, l, h1, h2, h3, h4, _, h5⟩ := Rdb.row1 (f := byteV) (Q := fun _ => True) ht hc (fun r hr => by
    obtain ⟨m, rfl, hw⟩ := hr.int he
    have := Go.bounds_u8 hw
    refine ⟨UInt8.ofNat m.toNat, ?_, trivial⟩
    simp [byteV]
    omega) h
  exact ⟨a, n, c, l, h1, h2, h3, h4, h5⟩
def I64 (n : Int) : Prop := -9223372036854775808 ≤ n ∧ n ≤ 9223372036854775807
theorem Rdb.ints (ht : P.underlying t = some (.slice e)) (he : P.underlying e = some (.int .i64)) (hc : P.cellsOf e = 1) (h : Rdb enc P W t cs) :
    ∃ a n c, ∃ l : List Int, cs = [.slice a n c] ∧ n ≤ c ∧ c ≤ maxLen ∧ l.length = n ∧ (∀ y ∈ l, I64 y) ∧ HasRow [junk, old W] a (l.map intV) :=
  Rdb.row1 (f := intV) (Q := I64) ht hc (fun r hr => by
    obtain ⟨m, rfl, hw⟩ := hr.int he
    exact ⟨m, rfl, Go.bounds_i64 hw⟩) h
/-! ### A slice of slices of bytes -/
/-- A slice of bytes that came in. -/
structure BSl where
  a : Option Addr
  n : Nat
  c : Nat
  bs : List UInt8
def BSl.val (s : BSl) : Value := .slice s.a s.n s.c
instance (s : BSl) : One s.val := ⟨rfl, rfl⟩
/-- .. that may be read. -/
structure BSl.Ok (F : List HProp) (s : BSl) : Prop where
  hn : s.bs.length = s.n
  r : HasRow F s.a (s.bs.map byteV)
theorem Rdb.bss {b : TypeId} (ht : P.underlying t = some (.slice e)) (hc : P.cellsOf e = 1) (he : P.underlying e = some (.slice b)) (hb : P.underlying b = some (.int .u8)) (hbc : P.cellsOf b = 1) (h : Rdb enc P W t cs) :
    ∃ a n c, ∃ l : List BSl, cs = [.slice a n c] ∧ n ≤ c ∧ c ≤ maxLen ∧ l.length = n ∧ (∀ y ∈ l, y.Ok [junk, old W]) ∧ HasRow [junk, old W] a (l.map BSl.val) :=
  Rdb.row1 ht hc (fun r hr => by
    obtain ⟨a, n, c, bs, rfl, _, _, h3, h4⟩ := hr.bytes he hb hbc
    exact ⟨⟨a, n, c, bs⟩, rfl, h3, h4⟩) h
/-! ### Arguments -/
theorem arg_int {k : IntKind} (ht : P.underlying t = some (.int k)) (o : Value.okWide P W .any base t v) (h : DataW.Trod enc P W 0 (fun _ => true) true t v d p) : ∃ n, v = .int k n ∧ (Lit.int k n).wf = true := by
  obtain ⟨n, rfl⟩ := okWide_int ht o
  obtain ⟨m, e, hw⟩ := (Rdb.of h).int ht
  simp [Value.cells] at e
  exact ⟨n, rfl, e ▸ hw⟩
theorem arg_bool (ht : P.underlying t = some .bool) (o : Value.okWide P W .any base t v) : ∃ b, v = .bool b := okWide_bool ht o
theorem arg_str (ht : P.underlying t = some .string) (o : Value.okWide P W .any base t v) (h : DataW.Trod enc P W 0 (fun _ => true) true t v d p) : ∃ s : ByteArray, v = .string s ∧ s.size ≤ maxLen := by
  obtain ⟨s, rfl⟩ := okWide_string ht o
  obtain ⟨m, e, hw⟩ := (Rdb.of h).str ht
  simp [Value.cells] at e
  exact ⟨s, rfl, e ▸ hw⟩
theorem arg_slice {e : TypeId} (ht : P.underlying t = some (.slice e)) (o : Value.okWide P W .any base t v) : v.cells.toList = [v] := by
  obtain ⟨a, n, c, rfl⟩ := okWide_slice ht o
  rfl
theorem arg_agg {fs : Array Field} (ht : P.underlying t = some (.struct fs)) (o : Value.okWide P W .any base t v) : ∃ cs, v = .agg cs ∧ v.cells.toList = cs.toList := by
  obtain ⟨cs, rfl, _⟩ := okWide_struct ht o
  exact ⟨cs, rfl, rfl⟩
end
end Go.Proofs.Ytmigjpmadhebfaa
