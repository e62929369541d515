/- Arguments that are configurations and certificates, with their sizes. -/
import Derived.Test.YtmigjpmadhebfaaSz
import Derived.Test.YtmigjpmadhebfaaCp
namespace Go.Proofs.Ytmigjpmadhebfaa
open Go Go.Proofs Go.ChangeShapes Go.WideShapes
set_option maxRecDepth 100000
theorem wf_i64 {n : Int} (w : (Lit.int .i64 n).wf = true) : I64 n := by have := Go.bounds_i64 w; unfold I64; omega
theorem RdbZ.agg {H : Type} {enc : TypeId × Value → H} {P : Program} {W : World} {t : TypeId} {cs : List Value} {fs : Array Field} (ht : P.underlying t = some (.struct fs)) (h : RdbZ enc P W t cs) :
    cs.length = P.cellsOf t ∧ ∀ (i : Nat) (f : Field), fs[i]? = some f → RdbZ enc P W f.type ((cs.drop f.offset).take (P.cellsOf f.type)) := by
  obtain ⟨f, x, h, hz⟩ := h
  obtain ⟨xs, n, _, rfl, h1, h2, h3⟩ := DataW.trod_struct ht h
  refine ⟨h1, fun i f hf => ?_⟩
  have hi : i < xs.length := by rw [h2]; exact (Array.getElem?_eq_some_iff.1 hf).1
  refine ⟨n, _, (h3 i f hf).trans (List.getElem?_eq_getElem hi), fun m hm => hz m ?_⟩
  simp only [DataW.weights, ht]
  exact DataW.weights_mem_each (j := i) (t := f.type) (d := xs[i].1) (by rw [List.getElem?_map, Array.getElem?_toList, hf]; rfl) (by rw [List.getElem?_map, List.getElem?_eq_getElem hi]; rfl) m hm
theorem RdbZ.intsZ {H : Type} {enc : TypeId × Value → H} {W : World} {cs : List Value} (h : RdbZ enc Try.prog W 24 cs) : ∃ a n c, ∃ l : List Int, cs = [.slice a n c] ∧ n ≤ 140737488355328 ∧ l.length = n ∧ HasRow [junk, old W] a (l.map intV) := by
  obtain ⟨a, n, c, l, h1, _, _, hz, h2, _, h3⟩ := RdbZ.row1 (e := 3) (f := intV) (Q := fun _ => True) Try.underlying24 (by kernel_rfl) (fun r hr => by
    obtain ⟨m, rfl, _⟩ := hr.rd.int Try.underlying3
    exact ⟨m, rfl, trivial⟩) h
  refine ⟨a, n, c, l, h1, ?_, h2, h3⟩
  have h4 : n ≤ n * Try.prog.bytesOf 3 := Nat.le_mul_of_pos_right _ (by rw [show Try.prog.bytesOf 3 = 8 by kernel_rfl]; omega)
  have := reachBytes_lt
  omega
def RowIn (F : List HProp) (r : Row) : Prop := HasRow F r.a (r.l.map intV) ∧ r.l.length = r.n ∧ r.n ≤ 140737488355328

theorem RdbZ.cfg {H : Type} {enc : TypeId × Value → H} {W : World} {cs : List Value} (h_ : RdbZ enc Try.prog W 23 cs) : ∃ c : CfgD, cs = c.cells ∧ I64 c.n := by
  obtain ⟨h1, h2⟩ := h_.agg Try.underlying23
  rw [show Try.prog.cellsOf 23 = 8 by kernel_rfl] at h1
  obtain ⟨x0, x1, x2, x3, x4, x5, x6, x7, rfl⟩ : ∃ x0 x1 x2 x3 x4 x5 x6 x7, cs = [x0, x1, x2, x3, x4, x5, x6, x7] := by
    match cs, h1 with
    | [x0, x1, x2, x3, x4, x5, x6, x7], _ => exact ⟨x0, x1, x2, x3, x4, x5, x6, x7, rfl⟩
  have f0 : RdbZ enc Try.prog W 3 (([x0, x1, x2, x3, x4, x5, x6, x7].drop 0).take (Try.prog.cellsOf 3)) := h2 0 _ rfl
  rw [show Try.prog.cellsOf 3 = 1 by kernel_rfl] at f0
  have f0 : RdbZ enc Try.prog W 3 [x0] := f0
  have f1 : RdbZ enc Try.prog W 3 (([x0, x1, x2, x3, x4, x5, x6, x7].drop 1).take (Try.prog.cellsOf 3)) := h2 1 _ rfl
  rw [show Try.prog.cellsOf 3 = 1 by kernel_rfl] at f1
  have f1 : RdbZ enc Try.prog W 3 [x1] := f1
  have f2 : RdbZ enc Try.prog W 3 (([x0, x1, x2, x3, x4, x5, x6, x7].drop 2).take (Try.prog.cellsOf 3)) := h2 2 _ rfl
  rw [show Try.prog.cellsOf 3 = 1 by kernel_rfl] at f2
  have f2 : RdbZ enc Try.prog W 3 [x2] := f2
  have f3 : RdbZ enc Try.prog W 3 (([x0, x1, x2, x3, x4, x5, x6, x7].drop 3).take (Try.prog.cellsOf 3)) := h2 3 _ rfl
  rw [show Try.prog.cellsOf 3 = 1 by kernel_rfl] at f3
  have f3 : RdbZ enc Try.prog W 3 [x3] := f3
  have f4 : RdbZ enc Try.prog W 3 (([x0, x1, x2, x3, x4, x5, x6, x7].drop 4).take (Try.prog.cellsOf 3)) := h2 4 _ rfl
  rw [show Try.prog.cellsOf 3 = 1 by kernel_rfl] at f4
  have f4 : RdbZ enc Try.prog W 3 [x4] := f4
  have f5 : RdbZ enc Try.prog W 3 (([x0, x1, x2, x3, x4, x5, x6, x7].drop 5).take (Try.prog.cellsOf 3)) := h2 5 _ rfl
  rw [show Try.prog.cellsOf 3 = 1 by kernel_rfl] at f5
  have f5 : RdbZ enc Try.prog W 3 [x5] := f5
  have f6 : RdbZ enc Try.prog W 3 (([x0, x1, x2, x3, x4, x5, x6, x7].drop 6).take (Try.prog.cellsOf 3)) := h2 6 _ rfl
  rw [show Try.prog.cellsOf 3 = 1 by kernel_rfl] at f6
  have f6 : RdbZ enc Try.prog W 3 [x6] := f6
  have f7 : RdbZ enc Try.prog W 3 (([x0, x1, x2, x3, x4, x5, x6, x7].drop 7).take (Try.prog.cellsOf 3)) := h2 7 _ rfl
  rw [show Try.prog.cellsOf 3 = 1 by kernel_rfl] at f7
  have f7 : RdbZ enc Try.prog W 3 [x7] := f7
  obtain ⟨a, e0, w0⟩ := Rdb.int Try.underlying3 f0.rd
  obtain ⟨b, e1, w1⟩ := Rdb.int Try.underlying3 f1.rd
  obtain ⟨c, e2, w2⟩ := Rdb.int Try.underlying3 f2.rd
  obtain ⟨d, e3, w3⟩ := Rdb.int Try.underlying3 f3.rd
  obtain ⟨e, e4, w4⟩ := Rdb.int Try.underlying3 f4.rd
  obtain ⟨f, e5, w5⟩ := Rdb.int Try.underlying3 f5.rd
  obtain ⟨g, e6, w6⟩ := Rdb.int Try.underlying3 f6.rd
  obtain ⟨h, e7, w7⟩ := Rdb.int Try.underlying3 f7.rd
  simp at e0 e1 e2 e3 e4 e5 e6 e7
  subst e0
  subst e1
  subst e2
  subst e3
  subst e4
  subst e5
  subst e6
  subst e7
  exact ⟨⟨a, b, c, d, e, f, g, h⟩, rfl, wf_i64 w1⟩
theorem RdbZ.qc {H : Type} {enc : TypeId × Value → H} {W : World} {cs : List Value} (h : RdbZ enc Try.prog W 26 cs) : ∃ q : QcD, cs = q.cells ∧ RowIn [junk, old W] q.by_ := by
  obtain ⟨h1, h2⟩ := h.agg Try.underlying26
  rw [show Try.prog.cellsOf 26 = 3 by kernel_rfl] at h1
  obtain ⟨x0, x1, x2, rfl⟩ : ∃ x0 x1 x2, cs = [x0, x1, x2] := by
    match cs, h1 with
    | [x0, x1, x2], _ => exact ⟨x0, x1, x2, rfl⟩
  have f0 : RdbZ enc Try.prog W 3 (([x0, x1, x2].drop 0).take (Try.prog.cellsOf 3)) := h2 0 _ rfl
  rw [show Try.prog.cellsOf 3 = 1 by kernel_rfl] at f0
  have f0 : RdbZ enc Try.prog W 3 [x0] := f0
  have f1 : RdbZ enc Try.prog W 3 (([x0, x1, x2].drop 1).take (Try.prog.cellsOf 3)) := h2 1 _ rfl
  rw [show Try.prog.cellsOf 3 = 1 by kernel_rfl] at f1
  have f1 : RdbZ enc Try.prog W 3 [x1] := f1
  have f2 : RdbZ enc Try.prog W 24 (([x0, x1, x2].drop 2).take (Try.prog.cellsOf 24)) := h2 2 _ rfl
  rw [show Try.prog.cellsOf 24 = 1 by kernel_rfl] at f2
  have f2 : RdbZ enc Try.prog W 24 [x2] := f2
  obtain ⟨v, e0, w0⟩ := Rdb.int Try.underlying3 f0.rd
  obtain ⟨b, e1, w1⟩ := Rdb.int Try.underlying3 f1.rd
  obtain ⟨pa, pn, pc, pl, e2, z2, n2, r2⟩ := f2.intsZ
  simp at e0 e1 e2
  subst e0; subst e1; subst e2
  exact ⟨⟨v, b, ⟨pa, pn, pc, pl⟩⟩, rfl, r2, n2, z2⟩
theorem RdbZ.tc {H : Type} {enc : TypeId × Value → H} {W : World} {cs : List Value} (h : RdbZ enc Try.prog W 28 cs) : ∃ t : TcD, cs = t.cells ∧ RowIn [junk, old W] t.by_ ∧ RowIn [junk, old W] t.highs ∧ RowIn [junk, old W] t.high.by_ := by
  obtain ⟨h1, h2⟩ := h.agg Try.underlying28
  rw [show Try.prog.cellsOf 28 = 6 by kernel_rfl] at h1
  obtain ⟨x0, x1, x2, x3, x4, x5, rfl⟩ : ∃ x0 x1 x2 x3 x4 x5, cs = [x0, x1, x2, x3, x4, x5] := by
    match cs, h1 with
    | [x0, x1, x2, x3, x4, x5], _ => exact ⟨x0, x1, x2, x3, x4, x5, rfl⟩
  have f0 : RdbZ enc Try.prog W 3 (([x0, x1, x2, x3, x4, x5].drop 0).take (Try.prog.cellsOf 3)) := h2 0 _ rfl
  rw [show Try.prog.cellsOf 3 = 1 by kernel_rfl] at f0
  have f0 : RdbZ enc Try.prog W 3 [x0] := f0
  have f1 : RdbZ enc Try.prog W 24 (([x0, x1, x2, x3, x4, x5].drop 1).take (Try.prog.cellsOf 24)) := h2 1 _ rfl
  rw [show Try.prog.cellsOf 24 = 1 by kernel_rfl] at f1
  have f1 : RdbZ enc Try.prog W 24 [x1] := f1
  have f2 : RdbZ enc Try.prog W 24 (([x0, x1, x2, x3, x4, x5].drop 2).take (Try.prog.cellsOf 24)) := h2 2 _ rfl
  rw [show Try.prog.cellsOf 24 = 1 by kernel_rfl] at f2
  have f2 : RdbZ enc Try.prog W 24 [x2] := f2
  have f3 : RdbZ enc Try.prog W 26 (([x0, x1, x2, x3, x4, x5].drop 3).take (Try.prog.cellsOf 26)) := h2 3 _ rfl
  rw [show Try.prog.cellsOf 26 = 3 by kernel_rfl] at f3
  have f3 : RdbZ enc Try.prog W 26 [x3, x4, x5] := f3
  obtain ⟨v, e0, w0⟩ := Rdb.int Try.underlying3 f0.rd
  obtain ⟨pa, pn, pc, pl, e1, z1, n1, r1⟩ := f1.intsZ
  obtain ⟨qa, qn, qc, ql, e2, z2, n2, r2⟩ := f2.intsZ
  obtain ⟨g, e3, rg⟩ := f3.qc
  simp at e0 e1 e2
  obtain ⟨g1, g2, g3⟩ : x3 = .int .i64 g.view ∧ x4 = .int .i64 g.block ∧ x5 = .slice g.by_.a g.by_.n g.by_.c := by simpa [QcD.cells] using e3
  subst e0; subst e1; subst e2; subst g1; subst g2; subst g3
  exact ⟨⟨v, ⟨pa, pn, pc, pl⟩, ⟨qa, qn, qc, ql⟩, g⟩, rfl, ⟨r1, n1, z1⟩, ⟨r2, n2, z2⟩, rg⟩
theorem argZ_cfg {H : Type} {enc : TypeId × Value → H} {W : World} {base : Nat} {v : Value} {d : DataW H} {p : List MemPlace} (o : Value.okWide Try.prog W Reach.any base 23 v) (k : DataW.Trod enc Try.prog W 0 (fun _ => true) (true) 23 v d p) (z : ∀ n ∈ d.weights Try.prog 23, n ≤ reachBytes) : ∃ e : CfgD, v = e.val ∧ I64 e.n := by
  obtain ⟨cs, rfl, hc⟩ := arg_agg Try.underlying23 o
  have h := RdbZ.of k z
  rw [hc] at h
  obtain ⟨e, he, hg⟩ := h.cfg
  have h3 : cs = e.cells.toArray := by rw [← he]
  subst h3
  exact ⟨e, rfl, hg⟩
theorem argZ_qc {H : Type} {enc : TypeId × Value → H} {W : World} {base : Nat} {v : Value} {d : DataW H} {p : List MemPlace} (o : Value.okWide Try.prog W Reach.any base 26 v) (k : DataW.Trod enc Try.prog W 0 (fun _ => true) (true) 26 v d p) (z : ∀ n ∈ d.weights Try.prog 26, n ≤ reachBytes) : ∃ e : QcD, v = e.val ∧ RowIn [junk, old W] e.by_ := by
  obtain ⟨cs, rfl, hc⟩ := arg_agg Try.underlying26 o
  have h := RdbZ.of k z
  rw [hc] at h
  obtain ⟨e, he, hg⟩ := h.qc
  have h3 : cs = e.cells.toArray := by rw [← he]
  subst h3
  exact ⟨e, rfl, hg⟩
theorem argZ_tc {H : Type} {enc : TypeId × Value → H} {W : World} {base : Nat} {v : Value} {d : DataW H} {p : List MemPlace} (o : Value.okWide Try.prog W Reach.any base 28 v) (k : DataW.Trod enc Try.prog W 0 (fun _ => true) (true) 28 v d p) (z : ∀ n ∈ d.weights Try.prog 28, n ≤ reachBytes) : ∃ e : TcD, v = e.val ∧ RowIn [junk, old W] e.by_ ∧ RowIn [junk, old W] e.highs ∧ RowIn [junk, old W] e.high.by_ := by
  obtain ⟨cs, rfl, hc⟩ := arg_agg Try.underlying28 o
  have h := RdbZ.of k z
  rw [hc] at h
  obtain ⟨e, he, hg⟩ := h.tc
  have h3 : cs = e.cells.toArray := by rw [← he]
  subst h3
  exact ⟨e, rfl, hg⟩
end Go.Proofs.Ytmigjpmadhebfaa
