/- Arguments that are envelopes, certificates, blocks, rows of envelopes. -/
import Derived.Test.YtnifaajdiolbjaaBk4
namespace Go.Proofs.Ytnifaajdiolbjaa
open Go Go.Proofs
set_option maxRecDepth 100000
theorem wf_i64 {n : Int} (w : (Lit.int .i64 n).wf = true) : I64 n := by have := Go.bounds_i64 w; unfold I64; omega
theorem wf_u64 {n : Int} (w : (Lit.int .u64 n).wf = true) : 0 ≤ n ∧ n < 18446744073709551616 := by have := Go.bounds_u64 w; omega

theorem Rdb.env {H : Type} {enc : TypeId × Value → H} {W : World} {cs : List Value} (h : Rdb enc Try.prog W 39 cs) : ∃ e : EnvD, cs = e.cells ∧ e.Good := by
  obtain ⟨h1, h2⟩ := h.agg Try.underlying39
  rw [show Try.prog.cellsOf 39 = 4 by kernel_rfl] at h1
  obtain ⟨x0, x1, x2, x3, rfl⟩ : ∃ x0 x1 x2 x3, cs = [x0, x1, x2, x3] := by
    match cs, h1 with
    | [x0, x1, x2, x3], _ => exact ⟨x0, x1, x2, x3, rfl⟩
  have f0 : Rdb enc Try.prog W 3 (([x0, x1, x2, x3].drop 0).take (Try.prog.cellsOf 3)) := h2 0 _ rfl
  rw [show Try.prog.cellsOf 3 = 1 by kernel_rfl] at f0
  have f0 : Rdb enc Try.prog W 3 [x0] := f0
  have f1 : Rdb enc Try.prog W 37 (([x0, x1, x2, x3].drop 1).take (Try.prog.cellsOf 37)) := h2 1 _ rfl
  rw [show Try.prog.cellsOf 37 = 1 by kernel_rfl] at f1
  have f1 : Rdb enc Try.prog W 37 [x1] := f1
  have f2 : Rdb enc Try.prog W 37 (([x0, x1, x2, x3].drop 2).take (Try.prog.cellsOf 37)) := h2 2 _ rfl
  rw [show Try.prog.cellsOf 37 = 1 by kernel_rfl] at f2
  have f2 : Rdb enc Try.prog W 37 [x2] := f2
  have f3 : Rdb enc Try.prog W 3 (([x0, x1, x2, x3].drop 3).take (Try.prog.cellsOf 3)) := h2 3 _ rfl
  rw [show Try.prog.cellsOf 3 = 1 by kernel_rfl] at f3
  have f3 : Rdb enc Try.prog W 3 [x3] := f3
  obtain ⟨a, e0, w0⟩ := Rdb.int Try.underlying3 f0
  obtain ⟨b, e1, w1⟩ := Rdb.int Try.underlying37 f1
  obtain ⟨c, e2, w2⟩ := Rdb.int Try.underlying37 f2
  obtain ⟨d, e3, w3⟩ := Rdb.int Try.underlying3 f3
  simp at e0 e1 e2 e3
  subst e0; subst e1; subst e2; subst e3
  exact ⟨⟨a, b, c, d⟩, rfl, wf_i64 w0, wf_i64 w3, wf_u64 w1, wf_u64 w2⟩
theorem Rdb.envs {H : Type} {enc : TypeId × Value → H} {W : World} {cs : List Value} (h : Rdb enc Try.prog W 31 cs) : ∃ a n c, ∃ l : List EnvD, cs = [.slice a n c] ∧ n ≤ c ∧ c ≤ maxLen ∧ l.length = n ∧ (∀ y ∈ l, y.Good) ∧ HasRow [junk, old W] a (l.flatMap EnvD.cells) :=
  Rdb.rowk (f := EnvD.cells) (k := 4) (Q := EnvD.Good) (fun _ => rfl) Try.underlying31 (by kernel_rfl) (fun r hr => hr.env) h
theorem Rdb.qc {H : Type} {enc : TypeId × Value → H} {W : World} {cs : List Value} (h : Rdb enc Try.prog W 30 cs) : ∃ v b a n c, ∃ l : List Int, cs = [.int .i64 v, .int .i64 b, .slice a n c] ∧ I64 v ∧ I64 b ∧ l.length = n ∧ (∀ x ∈ l, I64 x) ∧ HasRow [junk, old W] a (l.map intV) := by
  obtain ⟨h1, h2⟩ := h.agg Try.underlying30
  rw [show Try.prog.cellsOf 30 = 3 by kernel_rfl] at h1
  obtain ⟨x0, x1, x2, rfl⟩ : ∃ x0 x1 x2, cs = [x0, x1, x2] := by
    match cs, h1 with
    | [x0, x1, x2], _ => exact ⟨x0, x1, x2, rfl⟩
  have f0 : Rdb enc Try.prog W 3 (([x0, x1, x2].drop 0).take (Try.prog.cellsOf 3)) := h2 0 _ rfl
  rw [show Try.prog.cellsOf 3 = 1 by kernel_rfl] at f0
  have f0 : Rdb enc Try.prog W 3 [x0] := f0
  have f1 : Rdb enc Try.prog W 3 (([x0, x1, x2].drop 1).take (Try.prog.cellsOf 3)) := h2 1 _ rfl
  rw [show Try.prog.cellsOf 3 = 1 by kernel_rfl] at f1
  have f1 : Rdb enc Try.prog W 3 [x1] := f1
  have f2 : Rdb enc Try.prog W 22 (([x0, x1, x2].drop 2).take (Try.prog.cellsOf 22)) := h2 2 _ rfl
  rw [show Try.prog.cellsOf 22 = 1 by kernel_rfl] at f2
  have f2 : Rdb enc Try.prog W 22 [x2] := f2
  obtain ⟨v, e0, w0⟩ := Rdb.int Try.underlying3 f0
  obtain ⟨b, e1, w1⟩ := Rdb.int Try.underlying3 f1
  obtain ⟨a, n, c, l, e2, _, _, hn, hb, hr⟩ := Rdb.ints Try.underlying22 Try.underlying3 (by kernel_rfl) f2
  simp at e0 e1 e2
  subst e0; subst e1; subst e2
  exact ⟨v, b, a, n, c, l, rfl, wf_i64 w0, wf_i64 w1, hn, hb, hr⟩
theorem Rdb.blk {H : Type} {enc : TypeId × Value → H} {W : World} {cs : List Value} (h : Rdb enc Try.prog W 33 cs) : ∃ b : BlkD, cs = b.cells ∧ BlkIn [junk, old W] b := by
  obtain ⟨h1, h2⟩ := h.agg Try.underlying33
  rw [show Try.prog.cellsOf 33 = 6 by kernel_rfl] at h1
  obtain ⟨x0, x1, x2, x3, x4, x5, rfl⟩ : ∃ x0 x1 x2 x3 x4 x5, cs = [x0, x1, x2, x3, x4, x5] := by
    match cs, h1 with
    | [x0, x1, x2, x3, x4, x5], _ => exact ⟨x0, x1, x2, x3, x4, x5, rfl⟩
  have f0 : Rdb enc Try.prog W 3 (([x0, x1, x2, x3, x4, x5].drop 0).take (Try.prog.cellsOf 3)) := h2 0 _ rfl
  rw [show Try.prog.cellsOf 3 = 1 by kernel_rfl] at f0
  have f0 : Rdb enc Try.prog W 3 [x0] := f0
  have f1 : Rdb enc Try.prog W 3 (([x0, x1, x2, x3, x4, x5].drop 1).take (Try.prog.cellsOf 3)) := h2 1 _ rfl
  rw [show Try.prog.cellsOf 3 = 1 by kernel_rfl] at f1
  have f1 : Rdb enc Try.prog W 3 [x1] := f1
  have f2 : Rdb enc Try.prog W 30 (([x0, x1, x2, x3, x4, x5].drop 2).take (Try.prog.cellsOf 30)) := h2 2 _ rfl
  rw [show Try.prog.cellsOf 30 = 3 by kernel_rfl] at f2
  have f2 : Rdb enc Try.prog W 30 [x2, x3, x4] := f2
  have f3 : Rdb enc Try.prog W 31 (([x0, x1, x2, x3, x4, x5].drop 5).take (Try.prog.cellsOf 31)) := h2 3 _ rfl
  rw [show Try.prog.cellsOf 31 = 1 by kernel_rfl] at f3
  have f3 : Rdb enc Try.prog W 31 [x5] := f3
  obtain ⟨v, e0, w0⟩ := Rdb.int Try.underlying3 f0
  obtain ⟨u, e1, w1⟩ := Rdb.int Try.underlying3 f1
  obtain ⟨jv, jb, a, n, c, l, e2, i1, i2, hn, hb, hr⟩ := f2.qc
  obtain ⟨a2, n2, c2, l2, e3, _, _, hn2, hb2, hr2⟩ := f3.envs
  simp at e0 e1 e2 e3
  obtain ⟨q1, q2, q3⟩ := e2
  subst e0; subst e1; subst q1; subst q2; subst q3; subst e3
  exact ⟨⟨v, u, jv, jb, ⟨a, n, c, l⟩, ⟨a2, n2, c2, l2⟩⟩, rfl, ⟨hr, hr2, hn, hn2, wf_i64 w0, wf_i64 w1, i1, i2, hb, hb2⟩⟩
theorem arg_env {H : Type} {enc : TypeId × Value → H} {W : World} {base : Nat} {v : Value} {d : DataW H} {p : List MemPlace} (o : Value.okWide Try.prog W Reach.any base 39 v) (k : DataW.Trod enc Try.prog W 0 (fun _ => true) (true) 39 v d p) : ∃ e : EnvD, v = e.val ∧ e.Good := by
  obtain ⟨cs, rfl, hc⟩ := arg_agg Try.underlying39 o
  have h := Rdb.of k
  rw [hc] at h
  obtain ⟨e, he, hg⟩ := h.env
  have h3 : cs = e.cells.toArray := by rw [← he]
  subst h3
  exact ⟨e, rfl, hg⟩
theorem arg_blk {H : Type} {enc : TypeId × Value → H} {W : World} {base : Nat} {v : Value} {d : DataW H} {p : List MemPlace} (o : Value.okWide Try.prog W Reach.any base 33 v) (k : DataW.Trod enc Try.prog W 0 (fun _ => true) (true) 33 v d p) : ∃ e : BlkD, v = e.val ∧ BlkIn [junk, old W] e := by
  obtain ⟨cs, rfl, hc⟩ := arg_agg Try.underlying33 o
  have h := Rdb.of k
  rw [hc] at h
  obtain ⟨e, he, hg⟩ := h.blk
  have h3 : cs = e.cells.toArray := by rw [← he]
  subst h3
  exact ⟨e, rfl, hg⟩
end Go.Proofs.Ytnifaajdiolbjaa
