/- Arguments that are messages, with their sizes. -/
import Derived.Test.YtmigjpmadhebfaaAx3
import Derived.Test.YtmigjpmadhebfaaMg5
namespace Go.Proofs.Ytmigjpmadhebfaa
open Go Go.Proofs Go.ChangeShapes Go.WideShapes
set_option maxRecDepth 100000
theorem wf_u64m {n : Int} (w : (Lit.int .u64 n).wf = true) : 0 ≤ n ∧ n < 18446744073709551616 := by have := Go.bounds_u64 w; omega
section
variable {H : Type} {enc : TypeId × Value → H} {P : Program} {W : World} {t e : TypeId} {cs : List Value}
theorem RdbZ.rowk {Y : Type} {f : Y → List Value} {k : Nat} {Q : Y → Prop} (hf : ∀ y, (f y).length = k) (ht : P.underlying t = some (.slice e)) (hc : P.cellsOf e = k) (hb : 0 < P.bytesOf e)
    (hY : ∀ r, RdbZ enc P W e r → ∃ y, r = f y ∧ Q y) (h : RdbZ enc P W t cs) :
    ∃ a n c, ∃ l : List Y, cs = [.slice a n c] ∧ n ≤ 140737488355328 ∧ l.length = n ∧ (∀ y ∈ l, Q y) ∧ HasRow [junk, old W] a (l.flatMap f) := by
  rcases h.slice ht with rfl | ⟨x, n, c, rfl, h1, h2, hz, h3⟩
  · exact ⟨none, 0, 0, [], rfl, by omega, rfl, (fun _ h => nomatch h), HasRow.nil⟩
  · rw [hc] at h3
    obtain ⟨l, hl, hq⟩ := list_choose (Q := fun j y => Q y ∧ ∀ i, i < k → W.cell? (x.add (j * k + i)) = (f y)[i]?) n fun j hj => by
      obtain ⟨r, _, h5, h6⟩ := h3 j hj
      obtain ⟨y, rfl, hy⟩ := hY r h6
      exact ⟨y, hy, h5⟩
    refine ⟨some x, n, c, l, rfl, ?_, hl, fun y hy => ?_, ?_⟩
    · have h4 : n ≤ n * P.bytesOf e := Nat.le_mul_of_pos_right _ hb
      have := reachBytes_lt
      omega
    · obtain ⟨j, hj⟩ := List.getElem?_of_mem hy
      exact (hq j y hj).1
    · exact hasRow_old (rowR_of (flat_cells (f := f) (k := k) hf l x fun j y hj => (hq j y hj).2))
end
/-- A row of numbers that came in. -/
structure RZ (F : List HProp) (r : Row) : Prop where
  row : HasRow F r.a (r.l.map intV)
  n : r.l.length = r.n
  i : ∀ x ∈ r.l, I64 x
  z : r.n ≤ 140737488355328
structure BZ (F : List HProp) (b : BlkD) : Prop where
  r1 : RZ F b.by_
  r2 : HasRow F b.envs.a (b.envs.l.flatMap EnvD.cells)
  n2 : b.envs.l.length = b.envs.n
  i1 : I64 b.view
  i2 : I64 b.author
  i3 : I64 b.jv
  i4 : I64 b.jb
  e : ∀ e ∈ b.envs.l, e.Good
  z : b.envs.n ≤ 140737488355328
structure MZ (F : List HProp) (m : MsgD) : Prop where
  q : RZ F m.qc.by_
  t : RZ F m.tc.by_
  h : RZ F m.tc.highs
  k : RZ F m.tc.high.by_
  b : HasRow F m.bl.a (m.bl.l.flatMap BlkD.cells)
  n : m.bl.l.length = m.bl.n
  z : m.bl.n ≤ 140737488355328
  bs : ∀ b ∈ m.bl.l, BZ F b
  head : ∀ x ∈ [m.kind, m.from_, m.to_, m.view, m.num], I64 x
  q1 : I64 m.qc.view ∧ I64 m.qc.block
  t1 : I64 m.tc.view
  k1 : I64 m.tc.high.view ∧ I64 m.tc.high.block
  e : m.env.Good
theorem MZ.raw {F : List HProp} {m : MsgD} (h : MZ F m) : MsgRaw F m := ⟨h.b, h.n, h.z, h.q.z, h.t.z, h.h.z, h.k.z, fun b hb => ⟨(h.bs b hb).r1.z, (h.bs b hb).z⟩⟩
theorem MZ.inn {F : List HProp} {m : MsgD} (h : MZ F m) (s : Small m) : MsgIn F m :=
  ⟨⟨h.q.row, h.q.n, h.q.i, by have := s.q; omega⟩, ⟨h.t.row, h.t.n, h.t.i, by have := s.t; omega⟩, ⟨h.h.row, h.h.n, h.h.i, by have := s.h; omega⟩, ⟨h.k.row, h.k.n, h.k.i, by have := s.k; omega⟩, h.b, h.n, by have := s.s; omega,
   fun b hb => ⟨⟨(h.bs b hb).r1.row, (h.bs b hb).r1.n, (h.bs b hb).r1.i, by have := s.bs b hb; omega⟩, (h.bs b hb).r2, (h.bs b hb).n2, (h.bs b hb).i1, (h.bs b hb).i2, (h.bs b hb).i3, (h.bs b hb).i4, (h.bs b hb).e, by have := s.bs b hb; omega⟩, h.head, h.q1, h.t1, h.k1, h.e⟩
theorem RdbZ.intsM {H : Type} {enc : TypeId × Value → H} {W : World} {cs : List Value} (h : RdbZ enc Try.prog W 24 cs) : ∃ r : Row, cs = [.slice r.a r.n r.c] ∧ RZ [junk, old W] r := by
  obtain ⟨a, n, c, l, h1, _, _, hz, h2, h3, h4⟩ := RdbZ.row1 (e := 3) (f := intV) (Q := I64) Try.underlying24 (by kernel_rfl) (fun r hr => by
    obtain ⟨m, rfl, hw⟩ := hr.rd.int Try.underlying3
    exact ⟨m, rfl, wf_i64 hw⟩) h
  refine ⟨⟨a, n, c, l⟩, h1, h4, h2, h3, ?_⟩
  have h5 : n ≤ n * Try.prog.bytesOf 3 := Nat.le_mul_of_pos_right _ (by rw [show Try.prog.bytesOf 3 = 8 by kernel_rfl]; omega)
  have := reachBytes_lt
  show n ≤ _
  omega

theorem RdbZ.qcM {H : Type} {enc : TypeId × Value → H} {W : World} {cs : List Value} (h : RdbZ enc Try.prog W 26 cs) : ∃ q : QcD, cs = q.cells ∧ RZ [junk, old W] q.by_ ∧ I64 q.view ∧ I64 q.block := by
  obtain ⟨h1, h2⟩ := h.agg Try.underlying26
  rw [show Try.prog.cellsOf 26 = 3 by kernel_rfl] at h1
  obtain ⟨x0, x1, x2, rfl⟩ : ∃ x0 x1 x2, cs = [x0, x1, x2] := by
    match cs, h1 with
    | [x0, x1, x2], _ => exact ⟨x0, x1, x2, rfl⟩
  have f0 : RdbZ enc Try.prog W 3 (([x0, x1, x2].drop 0).take (Try.prog.cellsOf 3)) := h2 0 _ rfl
  rw [show Try.prog.cellsOf 3 = 1 by kernel_rfl] at f0
  have f0 : RdbZ enc Try.prog W 3 [x0] := f0
  have f1 : RdbZ enc Try.prog W 3 (([x0, x1, x2].drop 1).take (Try.prog.cellsOf 3)) := h2 1 _ rfl
  rw [show Try.prog.cellsOf 3 = 1 by kernel_rfl] at f1
  have f1 : RdbZ enc Try.prog W 3 [x1] := f1
  have f2 : RdbZ enc Try.prog W 24 (([x0, x1, x2].drop 2).take (Try.prog.cellsOf 24)) := h2 2 _ rfl
  rw [show Try.prog.cellsOf 24 = 1 by kernel_rfl] at f2
  have f2 : RdbZ enc Try.prog W 24 [x2] := f2
  obtain ⟨v, e0, w0⟩ := Rdb.int Try.underlying3 f0.rd
  obtain ⟨b, e1, w1⟩ := Rdb.int Try.underlying3 f1.rd
  obtain ⟨r, e2, hr⟩ := f2.intsM
  simp at e0 e1 e2
  subst e0; subst e1; subst e2
  exact ⟨⟨v, b, r⟩, rfl, hr, wf_i64 w0, wf_i64 w1⟩
theorem RdbZ.tcM {H : Type} {enc : TypeId × Value → H} {W : World} {cs : List Value} (h : RdbZ enc Try.prog W 28 cs) : ∃ t : TcD, cs = t.cells ∧ RZ [junk, old W] t.by_ ∧ RZ [junk, old W] t.highs ∧ RZ [junk, old W] t.high.by_ ∧ I64 t.view ∧ I64 t.high.view ∧ I64 t.high.block := by
  obtain ⟨h1, h2⟩ := h.agg Try.underlying28
  rw [show Try.prog.cellsOf 28 = 6 by kernel_rfl] at h1
  obtain ⟨x0, x1, x2, x3, x4, x5, rfl⟩ : ∃ x0 x1 x2 x3 x4 x5, cs = [x0, x1, x2, x3, x4, x5] := by
    match cs, h1 with
    | [x0, x1, x2, x3, x4, x5], _ => exact ⟨x0, x1, x2, x3, x4, x5, rfl⟩
  have f0 : RdbZ enc Try.prog W 3 (([x0, x1, x2, x3, x4, x5].drop 0).take (Try.prog.cellsOf 3)) := h2 0 _ rfl
  rw [show Try.prog.cellsOf 3 = 1 by kernel_rfl] at f0
  have f0 : RdbZ enc Try.prog W 3 [x0] := f0
  have f1 : RdbZ enc Try.prog W 24 (([x0, x1, x2, x3, x4, x5].drop 1).take (Try.prog.cellsOf 24)) := h2 1 _ rfl
  rw [show Try.prog.cellsOf 24 = 1 by kernel_rfl] at f1
  have f1 : RdbZ enc Try.prog W 24 [x1] := f1
  have f2 : RdbZ enc Try.prog W 24 (([x0, x1, x2, x3, x4, x5].drop 2).take (Try.prog.cellsOf 24)) := h2 2 _ rfl
  rw [show Try.prog.cellsOf 24 = 1 by kernel_rfl] at f2
  have f2 : RdbZ enc Try.prog W 24 [x2] := f2
  have f3 : RdbZ enc Try.prog W 26 (([x0, x1, x2, x3, x4, x5].drop 3).take (Try.prog.cellsOf 26)) := h2 3 _ rfl
  rw [show Try.prog.cellsOf 26 = 3 by kernel_rfl] at f3
  have f3 : RdbZ enc Try.prog W 26 [x3, x4, x5] := f3
  obtain ⟨v, e0, w0⟩ := Rdb.int Try.underlying3 f0.rd
  obtain ⟨r, e1, hr⟩ := f1.intsM
  obtain ⟨s, e2, hs⟩ := f2.intsM
  obtain ⟨g, e3, rg, i1, i2⟩ := f3.qcM
  simp at e0 e1 e2
  obtain ⟨g1, g2, g3⟩ : x3 = .int .i64 g.view ∧ x4 = .int .i64 g.block ∧ x5 = .slice g.by_.a g.by_.n g.by_.c := by simpa [QcD.cells] using e3
  subst e0; subst e1; subst e2; subst g1; subst g2; subst g3
  exact ⟨⟨v, r, s, g⟩, rfl, hr, hs, rg, wf_i64 w0, i1, i2⟩
theorem RdbZ.envM {H : Type} {enc : TypeId × Value → H} {W : World} {cs : List Value} (h : RdbZ enc Try.prog W 51 cs) : ∃ e : EnvD, cs = e.cells ∧ e.Good := by
  obtain ⟨h1, h2⟩ := h.agg Try.underlying51
  rw [show Try.prog.cellsOf 51 = 4 by kernel_rfl] at h1
  obtain ⟨x0, x1, x2, x3, rfl⟩ : ∃ x0 x1 x2 x3, cs = [x0, x1, x2, x3] := by
    match cs, h1 with
    | [x0, x1, x2, x3], _ => exact ⟨x0, x1, x2, x3, rfl⟩
  have f0 : RdbZ enc Try.prog W 3 (([x0, x1, x2, x3].drop 0).take (Try.prog.cellsOf 3)) := h2 0 _ rfl
  rw [show Try.prog.cellsOf 3 = 1 by kernel_rfl] at f0
  have f0 : RdbZ enc Try.prog W 3 [x0] := f0
  have f1 : RdbZ enc Try.prog W 49 (([x0, x1, x2, x3].drop 1).take (Try.prog.cellsOf 49)) := h2 1 _ rfl
  rw [show Try.prog.cellsOf 49 = 1 by kernel_rfl] at f1
  have f1 : RdbZ enc Try.prog W 49 [x1] := f1
  have f2 : RdbZ enc Try.prog W 49 (([x0, x1, x2, x3].drop 2).take (Try.prog.cellsOf 49)) := h2 2 _ rfl
  rw [show Try.prog.cellsOf 49 = 1 by kernel_rfl] at f2
  have f2 : RdbZ enc Try.prog W 49 [x2] := f2
  have f3 : RdbZ enc Try.prog W 3 (([x0, x1, x2, x3].drop 3).take (Try.prog.cellsOf 3)) := h2 3 _ rfl
  rw [show Try.prog.cellsOf 3 = 1 by kernel_rfl] at f3
  have f3 : RdbZ enc Try.prog W 3 [x3] := f3
  obtain ⟨a, e0, w0⟩ := Rdb.int Try.underlying3 f0.rd
  obtain ⟨b, e1, w1⟩ := Rdb.int Try.underlying49 f1.rd
  obtain ⟨c, e2, w2⟩ := Rdb.int Try.underlying49 f2.rd
  obtain ⟨d, e3, w3⟩ := Rdb.int Try.underlying3 f3.rd
  simp at e0 e1 e2 e3
  subst e0; subst e1; subst e2; subst e3
  exact ⟨⟨a, b, c, d⟩, rfl, wf_i64 w0, wf_i64 w3, wf_u64m w1, wf_u64m w2⟩
theorem RdbZ.blkM {H : Type} {enc : TypeId × Value → H} {W : World} {cs : List Value} (h : RdbZ enc Try.prog W 58 cs) : ∃ b : BlkD, cs = b.cells ∧ BZ [junk, old W] b := by
  obtain ⟨h1, h2⟩ := h.agg Try.underlying58
  rw [show Try.prog.cellsOf 58 = 6 by kernel_rfl] at h1
  obtain ⟨x0, x1, x2, x3, x4, x5, rfl⟩ : ∃ x0 x1 x2 x3 x4 x5, cs = [x0, x1, x2, x3, x4, x5] := by
    match cs, h1 with
    | [x0, x1, x2, x3, x4, x5], _ => exact ⟨x0, x1, x2, x3, x4, x5, rfl⟩
  have f0 : RdbZ enc Try.prog W 3 (([x0, x1, x2, x3, x4, x5].drop 0).take (Try.prog.cellsOf 3)) := h2 0 _ rfl
  rw [show Try.prog.cellsOf 3 = 1 by kernel_rfl] at f0
  have f0 : RdbZ enc Try.prog W 3 [x0] := f0
  have f1 : RdbZ enc Try.prog W 3 (([x0, x1, x2, x3, x4, x5].drop 1).take (Try.prog.cellsOf 3)) := h2 1 _ rfl
  rw [show Try.prog.cellsOf 3 = 1 by kernel_rfl] at f1
  have f1 : RdbZ enc Try.prog W 3 [x1] := f1
  have f2 : RdbZ enc Try.prog W 26 (([x0, x1, x2, x3, x4, x5].drop 2).take (Try.prog.cellsOf 26)) := h2 2 _ rfl
  rw [show Try.prog.cellsOf 26 = 3 by kernel_rfl] at f2
  have f2 : RdbZ enc Try.prog W 26 [x2, x3, x4] := f2
  have f3 : RdbZ enc Try.prog W 56 (([x0, x1, x2, x3, x4, x5].drop 5).take (Try.prog.cellsOf 56)) := h2 3 _ rfl
  rw [show Try.prog.cellsOf 56 = 1 by kernel_rfl] at f3
  have f3 : RdbZ enc Try.prog W 56 [x5] := f3
  obtain ⟨v, e0, w0⟩ := Rdb.int Try.underlying3 f0.rd
  obtain ⟨u, e1, w1⟩ := Rdb.int Try.underlying3 f1.rd
  obtain ⟨q, e2, rq, i1, i2⟩ := f2.qcM
  obtain ⟨a, n, c, l, e3, z3, n3, h3, r3⟩ := RdbZ.rowk (f := EnvD.cells) (k := 4) (Q := EnvD.Good) (fun _ => rfl) Try.underlying56 (by kernel_rfl) (by decide +kernel) (fun r hr => hr.envM) f3
  simp at e0 e1 e3
  obtain ⟨g1, g2, g3⟩ : x2 = .int .i64 q.view ∧ x3 = .int .i64 q.block ∧ x4 = .slice q.by_.a q.by_.n q.by_.c := by simpa [QcD.cells] using e2
  subst e0; subst e1; subst e3; subst g1; subst g2; subst g3
  exact ⟨⟨v, u, q.view, q.block, q.by_, ⟨a, n, c, l⟩⟩, rfl, rq, r3, n3, wf_i64 w0, wf_i64 w1, i1, i2, h3, z3⟩
theorem RdbZ.msgM {H : Type} {enc : TypeId × Value → H} {W : World} {cs : List Value} (h : RdbZ enc Try.prog W 54 cs) : ∃ m : MsgD, cs = m.cells ∧ MZ [junk, old W] m := by
  obtain ⟨h1, h2⟩ := h.agg Try.underlying54
  rw [show Try.prog.cellsOf 54 = 19 by kernel_rfl] at h1
  obtain ⟨x0, x1, x2, x3, x4, x5, x6, x7, x8, x9, x10, x11, x12, x13, x14, x15, x16, x17, x18, rfl⟩ : ∃ x0 x1 x2 x3 x4 x5 x6 x7 x8 x9 x10 x11 x12 x13 x14 x15 x16 x17 x18, cs = [x0, x1, x2, x3, x4, x5, x6, x7, x8, x9, x10, x11, x12, x13, x14, x15, x16, x17, x18] := by
    match cs, h1 with
    | [x0, x1, x2, x3, x4, x5, x6, x7, x8, x9, x10, x11, x12, x13, x14, x15, x16, x17, x18], _ => exact ⟨x0, x1, x2, x3, x4, x5, x6, x7, x8, x9, x10, x11, x12, x13, x14, x15, x16, x17, x18, rfl⟩
  have f0 : RdbZ enc Try.prog W 3 (([x0, x1, x2, x3, x4, x5, x6, x7, x8, x9, x10, x11, x12, x13, x14, x15, x16, x17, x18].drop 0).take (Try.prog.cellsOf 3)) := h2 0 _ rfl
  rw [show Try.prog.cellsOf 3 = 1 by kernel_rfl] at f0
  have f0 : RdbZ enc Try.prog W 3 [x0] := f0
  have f1 : RdbZ enc Try.prog W 3 (([x0, x1, x2, x3, x4, x5, x6, x7, x8, x9, x10, x11, x12, x13, x14, x15, x16, x17, x18].drop 1).take (Try.prog.cellsOf 3)) := h2 1 _ rfl
  rw [show Try.prog.cellsOf 3 = 1 by kernel_rfl] at f1
  have f1 : RdbZ enc Try.prog W 3 [x1] := f1
  have f2 : RdbZ enc Try.prog W 3 (([x0, x1, x2, x3, x4, x5, x6, x7, x8, x9, x10, x11, x12, x13, x14, x15, x16, x17, x18].drop 2).take (Try.prog.cellsOf 3)) := h2 2 _ rfl
  rw [show Try.prog.cellsOf 3 = 1 by kernel_rfl] at f2
  have f2 : RdbZ enc Try.prog W 3 [x2] := f2
  have f3 : RdbZ enc Try.prog W 3 (([x0, x1, x2, x3, x4, x5, x6, x7, x8, x9, x10, x11, x12, x13, x14, x15, x16, x17, x18].drop 3).take (Try.prog.cellsOf 3)) := h2 3 _ rfl
  rw [show Try.prog.cellsOf 3 = 1 by kernel_rfl] at f3
  have f3 : RdbZ enc Try.prog W 3 [x3] := f3
  have f4 : RdbZ enc Try.prog W 3 (([x0, x1, x2, x3, x4, x5, x6, x7, x8, x9, x10, x11, x12, x13, x14, x15, x16, x17, x18].drop 4).take (Try.prog.cellsOf 3)) := h2 4 _ rfl
  rw [show Try.prog.cellsOf 3 = 1 by kernel_rfl] at f4
  have f4 : RdbZ enc Try.prog W 3 [x4] := f4
  have f5 : RdbZ enc Try.prog W 26 (([x0, x1, x2, x3, x4, x5, x6, x7, x8, x9, x10, x11, x12, x13, x14, x15, x16, x17, x18].drop 5).take (Try.prog.cellsOf 26)) := h2 5 _ rfl
  rw [show Try.prog.cellsOf 26 = 3 by kernel_rfl] at f5
  have f5 : RdbZ enc Try.prog W 26 [x5, x6, x7] := f5
  have f6 : RdbZ enc Try.prog W 28 (([x0, x1, x2, x3, x4, x5, x6, x7, x8, x9, x10, x11, x12, x13, x14, x15, x16, x17, x18].drop 8).take (Try.prog.cellsOf 28)) := h2 6 _ rfl
  rw [show Try.prog.cellsOf 28 = 6 by kernel_rfl] at f6
  have f6 : RdbZ enc Try.prog W 28 [x8, x9, x10, x11, x12, x13] := f6
  have f7 : RdbZ enc Try.prog W 51 (([x0, x1, x2, x3, x4, x5, x6, x7, x8, x9, x10, x11, x12, x13, x14, x15, x16, x17, x18].drop 14).take (Try.prog.cellsOf 51)) := h2 7 _ rfl
  rw [show Try.prog.cellsOf 51 = 4 by kernel_rfl] at f7
  have f7 : RdbZ enc Try.prog W 51 [x14, x15, x16, x17] := f7
  have f8 : RdbZ enc Try.prog W 52 (([x0, x1, x2, x3, x4, x5, x6, x7, x8, x9, x10, x11, x12, x13, x14, x15, x16, x17, x18].drop 18).take (Try.prog.cellsOf 52)) := h2 8 _ rfl
  rw [show Try.prog.cellsOf 52 = 1 by kernel_rfl] at f8
  have f8 : RdbZ enc Try.prog W 52 [x18] := f8
  obtain ⟨a, e0, w0⟩ := Rdb.int Try.underlying3 f0.rd
  obtain ⟨b, e1, w1⟩ := Rdb.int Try.underlying3 f1.rd
  obtain ⟨c, e2, w2⟩ := Rdb.int Try.underlying3 f2.rd
  obtain ⟨d, e3, w3⟩ := Rdb.int Try.underlying3 f3.rd
  obtain ⟨ee, e4, w4⟩ := Rdb.int Try.underlying3 f4.rd
  obtain ⟨q, e5, rq, i1, i2⟩ := f5.qcM
  obtain ⟨t, e6, t1, t2, t3, t4, t5, t6⟩ := f6.tcM
  obtain ⟨e, e7, he⟩ := f7.envM
  obtain ⟨sa, sn, sc, l, e8, z8, n8, h8, r8⟩ := RdbZ.rowk (f := BlkD.cells) (k := 6) (Q := BZ [junk, old W]) (fun _ => rfl) Try.underlying52 (by kernel_rfl) (by decide +kernel) (fun r hr => hr.blkM) f8
  simp at e0 e1 e2 e3 e4 e8
  obtain ⟨g1, g2, g3⟩ : x5 = .int .i64 q.view ∧ x6 = .int .i64 q.block ∧ x7 = .slice q.by_.a q.by_.n q.by_.c := by simpa [QcD.cells] using e5
  obtain ⟨k0, k1, k2, k3, k4, k5⟩ : x8 = .int .i64 t.view ∧ x9 = .slice t.by_.a t.by_.n t.by_.c ∧ x10 = .slice t.highs.a t.highs.n t.highs.c ∧ x11 = .int .i64 t.high.view ∧ x12 = .int .i64 t.high.block ∧ x13 = .slice t.high.by_.a t.high.by_.n t.high.by_.c := by simpa [TcD.cells, QcD.cells] using e6
  obtain ⟨l0, l1, l2, l3⟩ : x14 = .int .i64 e.client ∧ x15 = .int .u64 e.nonce ∧ x16 = .int .u64 e.fee ∧ x17 = .int .i64 e.cipher := by simpa [EnvD.cells] using e7
  subst e0
  subst e1
  subst e2
  subst e3
  subst e4
  subst e8
  subst g1
  subst g2
  subst g3
  subst k0
  subst k1
  subst k2
  subst k3
  subst k4
  subst k5
  subst l0
  subst l1
  subst l2
  subst l3
  exact ⟨⟨a, b, c, d, ee, q, t, e, ⟨sa, sn, sc, l⟩⟩, rfl, rq, t1, t2, t3, r8, n8, z8, h8, (by intro x hx; simp at hx; rcases hx with rfl | rfl | rfl | rfl | rfl <;> first | exact wf_i64 w0 | exact wf_i64 w1 | exact wf_i64 w2 | exact wf_i64 w3 | exact wf_i64 w4), ⟨i1, i2⟩, t4, ⟨t5, t6⟩, he⟩
theorem argZ_msg {H : Type} {enc : TypeId × Value → H} {W : World} {base : Nat} {v : Value} {d : DataW H} {p : List MemPlace} (o : Value.okWide Try.prog W Reach.any base 54 v) (k : DataW.Trod enc Try.prog W 0 (fun _ => true) (true) 54 v d p) (z : ∀ n ∈ d.weights Try.prog 54, n ≤ reachBytes) : ∃ e : MsgD, v = e.val ∧ MZ [junk, old W] e := by
  obtain ⟨cs, rfl, hc⟩ := arg_agg Try.underlying54 o
  have h := RdbZ.of k z
  rw [hc] at h
  obtain ⟨e, he, hg⟩ := h.msgM
  have h3 : cs = e.cells.toArray := by rw [← he]
  subst h3
  exact ⟨e, rfl, hg⟩
end Go.Proofs.Ytmigjpmadhebfaa
