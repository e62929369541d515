/- Arguments that are trades. -/
import Derived.Test.YtnifaajdiolbjaaAx
import Derived.Test.YtnifaajdiolbjaaTx1
namespace Go.Proofs.Ytnifaajdiolbjaa
open Go Go.Proofs
set_option maxRecDepth 100000

theorem Rdb.tx {H : Type} {enc : TypeId × Value → H} {W : World} {cs : List Value} (h : Rdb enc Try.prog W 87 cs) : ∃ t : TxD, cs = t.cells ∧ t.Wf := by
  obtain ⟨h1, h2⟩ := h.agg Try.underlying87
  rw [show Try.prog.cellsOf 87 = 7 by kernel_rfl] at h1
  obtain ⟨x0, x1, x2, x3, x4, x5, x6, rfl⟩ : ∃ x0 x1 x2 x3 x4 x5 x6, cs = [x0, x1, x2, x3, x4, x5, x6] := by
    match cs, h1 with
    | [x0, x1, x2, x3, x4, x5, x6], _ => exact ⟨x0, x1, x2, x3, x4, x5, x6, rfl⟩
  have f0 : Rdb enc Try.prog W 3 (([x0, x1, x2, x3, x4, x5, x6].drop 0).take (Try.prog.cellsOf 3)) := h2 0 _ rfl
  rw [show Try.prog.cellsOf 3 = 1 by kernel_rfl] at f0
  have f0 : Rdb enc Try.prog W 3 [x0] := f0
  have f1 : Rdb enc Try.prog W 3 (([x0, x1, x2, x3, x4, x5, x6].drop 1).take (Try.prog.cellsOf 3)) := h2 1 _ rfl
  rw [show Try.prog.cellsOf 3 = 1 by kernel_rfl] at f1
  have f1 : Rdb enc Try.prog W 3 [x1] := f1
  have f2 : Rdb enc Try.prog W 3 (([x0, x1, x2, x3, x4, x5, x6].drop 2).take (Try.prog.cellsOf 3)) := h2 2 _ rfl
  rw [show Try.prog.cellsOf 3 = 1 by kernel_rfl] at f2
  have f2 : Rdb enc Try.prog W 3 [x2] := f2
  have f3 : Rdb enc Try.prog W 4 (([x0, x1, x2, x3, x4, x5, x6].drop 3).take (Try.prog.cellsOf 4)) := h2 3 _ rfl
  rw [show Try.prog.cellsOf 4 = 1 by kernel_rfl] at f3
  have f3 : Rdb enc Try.prog W 4 [x3] := f3
  have f4 : Rdb enc Try.prog W 37 (([x0, x1, x2, x3, x4, x5, x6].drop 4).take (Try.prog.cellsOf 37)) := h2 4 _ rfl
  rw [show Try.prog.cellsOf 37 = 1 by kernel_rfl] at f4
  have f4 : Rdb enc Try.prog W 37 [x4] := f4
  have f5 : Rdb enc Try.prog W 37 (([x0, x1, x2, x3, x4, x5, x6].drop 5).take (Try.prog.cellsOf 37)) := h2 5 _ rfl
  rw [show Try.prog.cellsOf 37 = 1 by kernel_rfl] at f5
  have f5 : Rdb enc Try.prog W 37 [x5] := f5
  have f6 : Rdb enc Try.prog W 3 (([x0, x1, x2, x3, x4, x5, x6].drop 6).take (Try.prog.cellsOf 3)) := h2 6 _ rfl
  rw [show Try.prog.cellsOf 3 = 1 by kernel_rfl] at f6
  have f6 : Rdb enc Try.prog W 3 [x6] := f6
  obtain ⟨a, e0, w0⟩ := Rdb.int Try.underlying3 f0
  obtain ⟨b, e1, w1⟩ := Rdb.int Try.underlying3 f1
  obtain ⟨c, e2, w2⟩ := Rdb.int Try.underlying3 f2
  obtain ⟨d, e3⟩ := Rdb.bool Try.underlying4 f3
  obtain ⟨p, e4, w4⟩ := Rdb.int Try.underlying37 f4
  obtain ⟨q, e5, w5⟩ := Rdb.int Try.underlying37 f5
  obtain ⟨i, e6, w6⟩ := Rdb.int Try.underlying3 f6
  simp at e0 e1 e2 e3 e4 e5 e6
  subst e0; subst e1; subst e2; subst e3; subst e4; subst e5; subst e6
  exact ⟨⟨a, b, c, d, p, q, i⟩, rfl, ⟨wf_i64 w0, wf_i64 w1, wf_i64 w2, wf_u64 w4, wf_u64 w5, wf_i64 w6⟩⟩
theorem arg_tx {H : Type} {enc : TypeId × Value → H} {W : World} {base : Nat} {v : Value} {d : DataW H} {p : List MemPlace} (o : Value.okWide Try.prog W Reach.any base 87 v) (k : DataW.Trod enc Try.prog W 0 (fun _ => true) (true) 87 v d p) : ∃ e : TxD, v = e.val ∧ e.Wf := by
  obtain ⟨cs, rfl, hc⟩ := arg_agg Try.underlying87 o
  have h := Rdb.of k
  rw [hc] at h
  obtain ⟨e, he, hg⟩ := h.tx
  have h3 : cs = e.cells.toArray := by rw [← he]
  subst h3
  exact ⟨e, rfl, hg⟩
end Go.Proofs.Ytnifaajdiolbjaa
