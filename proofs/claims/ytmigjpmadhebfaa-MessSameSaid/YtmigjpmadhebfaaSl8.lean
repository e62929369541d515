/- Rows that grow, bytes out of strings, maps. -/
import Derived.Test.YtmigjpmadhebfaaSl7
namespace Go.Proofs.Ytmigjpmadhebfaa
open Go

section
variable {W : World} {P : Program} {l : Env} {ty : TypeId} {L R F : List HProp} {v : Value}

theorem run_firstCells {z m c2 : Nat} {a2 : Option Addr} {ds : List Value} {w : World} (hd : ds.length = m * z) (hR : rowR a2 ds (fun b => w.heap[b]?)) :
    (Builtin.firstCells z m (.slice a2 m c2)).run P w = .ok ds.toArray w := by
  by_cases h0 : ds = []
  · subst h0
    have hm : m * z = 0 := hd.symm
    cases a2 with
    | none => simp [Builtin.firstCells]
    | some p =>
      simp only [Builtin.firstCells, hm]
      rfl
  · obtain ⟨b, off, rfl, hc⟩ := hR.some (List.length_pos_iff.2 h0)
    have := run_loadCells_list (P := P) w ⟨b, off, none⟩ ds (fun j v h => by rw [Addr.add_eq]; exact (hc j v h).cell)
    simp [Builtin.firstCells, ← hd, this]

theorem zeroCells_size (zs : Array Value) (k : Nat) : (Builtin.zeroCells zs k).size = k * zs.size := by simp [Builtin.zeroCells]

theorem rowP_abs {E z : Nat} {a : Option Addr} {n c : Nat} {cs : List Value} [hF : Abs R] {h : Hp} (H : Den (rowP E z a n c cs :: R) h) : Den R h := hF.h _ _ H

theorem OX_append {x y : Operand} {t t2 E z n c m c2 : Nat} {a a2 : Option Addr} {cs ds : List Value} {i : TypeInfo} {zv : Value}
    (ht : P.underlying t = some (.slice E)) (ht2 : P.underlying t2 = some (.slice E)) (hi : P.info? E = some i) (hz : i.zero = some zv) (hsz : i.size = z) (hzc : zv.cells.size = z)
    [hF : Abs R] (hx : ev l x = some (.slice a n c)) (hy : ev l y = some (.slice a2 m c2)) (hds : ds.length = m * z) (hone : ∀ v ∈ ds, v.oneCell' = true)
    (hR : Has W (rowP E z a n c cs :: R) (rowR a2 ds)) (hb : (n + m) * i.bytes ≤ 140737488355328) (hb2 : n + m ≤ 9223372036854775807) :
    OX W P l (rowP E z a n c cs :: R) (.call ⟨.builtin .append, #[x, y], #[t, t2]⟩) ty
      (fun u L' => ∃ a' c', u = .slice a' (n + m) c' ∧ L' = rowP E z a' (n + m) c' (cs ++ ds) :: R) := fun ρ hρ w hw _ _ _ _ => by
  have hlen : cs.length = n * z ∧ n ≤ c := by
    obtain ⟨h1, H, _⟩ := Den_head hw.2.2.2; exact rowP_len H
  have hcs : ∀ w, Sat W (rowP E z a n c cs :: R) w → (Builtin.firstCells z n (.slice a n c)).run P w = .ok cs.toArray w := fun w hw =>
    run_firstCells hlen.1 (Has.row (i := 0) rfl w hw)
  have hdsr : ∀ w, Sat W (rowP E z a n c cs :: R) w → (Builtin.firstCells z m (.slice a2 m c2)).run P w = .ok ds.toArray w := fun w hw =>
    run_firstCells hds (hR w hw)
  have hu : ∀ w, (underlying t).run P w = .ok (.slice E) w := fun w => run_underlying ht w
  have hu2 : ∀ w, (underlying t2).run P w = .ok (.slice E) w := fun w => run_underlying ht2 w
  have hs : ∀ w, (sizeOf E).run P w = .ok z w := fun w => by simp [sizeOf, typeInfo, hi, hsz]
  have hti : ∀ w, (typeInfo E).run P w = .ok i w := fun w => by simp [typeInfo, hi]
  have hzv : ∀ w, (zeroValue E).run P w = .ok zv w := fun w => by simp [zeroValue, typeInfo, hi, hz]
  have run : ∀ (v : Value) (w' : World), (Builtin.append_ #[t, t2] ty #[.slice a n c, .slice a2 m c2]).run P w = .ok v w' →
      ∀ d p af g, (execOp ρ ⟨d, .call ⟨.builtin .append, #[x, y], #[t, t2]⟩, ty, p, af, g⟩).run P w = .ok (.value v) w' := fun v w' h d p af g => by
    simp [execOp, resolve, hρ x _ hx, hρ y _ hy, invoke, builtin, h]
  by_cases hroom : n + m ≤ c
  · obtain ⟨h1, h2, hdj, e, H, hr⟩ := hw.2.2.2
    rcases H with ⟨rfl, rfl, rfl, he⟩ | ⟨b, off, xs, fz, rfl, hp, hl, hnc, hoff, hfz, hcell⟩
    · have hm : m = 0 := by omega
      subst hm
      have hd0 : ds = [] := by simpa using hds
      subst hd0
      refine ⟨_, w, .slice a 0 0, _, run _ w ?_ _ _ _ _, .inl rfl, ⟨a, 0, rfl, rfl⟩, hw⟩
      have h0 := hdsr w hw
      have hst : ∀ p : Addr, (storeCells p []).run P w = .ok () w := fun p => by simp [storeCells]
      cases a <;> simp [Builtin.append_, hu, hu2, hs, Builtin.lenOf, h0, hst]
    · have hw' : Sat W (pt b (.cells xs.toList.toArray E fz) :: R) w := ⟨hw.1, hw.2.1, hw.2.2.1, h1, h2, hdj, e, by simpa using hp, hr⟩
      have hnm : off + n * z + ds.length ≤ xs.toList.length := by
        have : (n + m) * z ≤ c * z := Nat.mul_le_mul_right _ hroom
        rw [Nat.add_mul] at this
        simp; omega
      obtain ⟨w1, hr1, hS⟩ := run_storeCells (P := P) (off := off + n * z) ds 0 xs.toList w hw' (by simpa using hfz) hone hnm
      refine ⟨_, w1, .slice (some ⟨b, off, none⟩) (n + m) c, _, run _ w1 ?_ _ _ _ _, .inl rfl, ⟨some ⟨b, off, none⟩, c, rfl, rfl⟩, hS.imp ?_⟩
      · have h0 := hdsr w hw
        simp [Builtin.append_, hu, hu2, hs, Builtin.lenOf, h0, hroom, Addr.add_eq, hr1]
      · rintro q ⟨q1, q2, qd, qe, qp, qr⟩
        refine ⟨q1, q2, qd, qe, .inr ⟨b, off, _, fz, rfl, qp, ?_, hroom, ?_, ?_, ?_⟩, qr⟩
        · simp [hl, hds, Nat.add_mul]
        · simpa [setL_length] using hoff
        · simpa [setL_length] using hfz
        · intro j v hv
          have hg := setL_get ds xs.toList (off + n * z) (off + j) hnm
          simp only [List.getElem?_toArray, Nat.add_zero]
          rw [hg]
          rw [List.getElem?_append] at hv
          split at hv
          · rename_i hj
            rw [if_neg (by omega)]
            simpa using hcell j v hv
          · rename_i hj
            have hjd := lt_len hv
            rw [if_pos (by omega)]
            rw [← hv]; congr 1; omega
  · have hg : c < n + m := by omega
    have hfit := growslice_fits (bytes := i.bytes) hg hb
    have h63 : ¬ (9223372036854775807 < ((n : Int) + (m : Int))) := by omega
    have h48 : ¬ (281474976710656 < Builtin.nextslicecap (n + m) c * i.bytes) := by omega
    have hwd : Sat W (rowP E z a n c cs :: R) w.drew := hw
    have h1 := hcs _ hwd
    have h2 := hdsr _ hwd
    have hge := grownCap_ge w (n + m) c E
    let N := grownCap w (n + m) c E
    let ys : Array Value := cs.toArray ++ ds.toArray ++ Builtin.zeroCells zv.cells (N - (n + m))
    have hys : ys.size = N * z := by
      have : (N - (n + m)) * z + (n + m) * z = N * z := by rw [← Nat.add_mul]; congr 1; omega
      rw [Nat.add_mul] at this
      simp [ys, zeroCells_size, hzc, hlen.1, hds]; omega
    refine ⟨_, w.drew.alloc (.cells ys E), .slice (some ⟨w.heap.size, 0, none⟩) (n + m) N, _, run _ _ ?_ _ _ _ _, .inl rfl, ⟨_, N, rfl, rfl⟩, (hwd.new (.cells ys E)).imp ?_⟩
    · simp [Builtin.append_, hu, hu2, hs, hti, hzv, Builtin.lenOf, hroom, h63, h48, Question.forced, h1, h2, newRow, grownCap, ys, N]
    · rintro q ⟨q1, q2, qd, qe, qp, qr⟩
      refine ⟨q1, q2, qd, qe, .inr ⟨w.heap.size, 0, ys, (0, 0), rfl, qp, by simp [hlen.1, hds, Nat.add_mul], hge, by rw [hys]; simp, .inl rfl, ?_⟩, rowP_abs qr⟩
      intro j v hv
      have hj := lt_len hv
      have hj2 : j < (cs.toArray ++ ds.toArray).size := by simpa using hj
      simp only [ys, Nat.zero_add]
      rw [Array.getElem?_append_left hj2]
      simpa using hv

/-- string to []byte: a new row. -/
theorem OX_s2b {x : Operand} {src dst e : TypeId} {s : ByteArray} {d : TypeDesc} (hs : P.underlying src = some d) (hd : P.underlying dst = some (.slice e)) (he : P.underlying e = some (.int .u8)) (hx : ev l x = some (.string s)) :
    OX W P l L (.convert src dst x) ty (fun u L' => ∃ b c, u = .slice (some ⟨b, 0, none⟩) s.size c ∧ L' = rowP e 1 (some ⟨b, 0, none⟩) s.size c (s.data.toList.map byteV) :: L) := fun ρ hρ w hw _ _ _ _ => by
  have hrun := Lib.run_convert_string_bytes (P := P) w src dst e s hs hd he
  let cells := Lib.bytesCells w e s
  have h1 : Sat W (pt w.heap.size (.cells cells e) :: L) (w.drew.alloc (.cells cells e)) := Sat.new (w := w.drew) hw _
  have h2 : Sat W (pt w.heap.size (.cells cells e (cells.size, cells.size + 1)) :: L) (Lib.bytesWorld w e s) := by
    refine h1.turn rfl rfl rfl fun k => ?_
    by_cases hk : k = w.heap.size
    · subst hk; rw [if_pos rfl]; exact Lib.bytesWorld_at_new w e s
    · rw [if_neg hk]
      simp only [Lib.bytesWorld, World.freeze]
      rw [if_neg (by decide)]
      rw [Array.getElem?_modify, if_neg (fun x => hk x.symm)]
  have hge := grownCap_ge w s.size 0 e
  have hsz : cells.size = grownCap w s.size 0 e := by
    have hge' : s.data.size ≤ grownCap w s.size 0 e := hge
    simp only [cells, Lib.bytesCells, Array.size_append, Array.size_map, Array.size_replicate]
    show s.data.size + (grownCap w s.size 0 e - s.data.size) = _
    omega
  refine ⟨_, Lib.bytesWorld w e s, .slice (some ⟨w.heap.size, 0, none⟩) s.size (grownCap w s.size 0 e), _, by simp [execOp, hρ x _ hx, hrun], .inl rfl, ⟨_, _, rfl, rfl⟩, h2.imp ?_⟩
  rintro q ⟨q1, q2, qd, qe, qp, qr⟩
  refine ⟨q1, q2, qd, qe, .inr ⟨w.heap.size, 0, _, _, rfl, qp, by rw [List.length_map, Array.length_toList, Nat.mul_one]; rfl, hge, ?_, .inr (Nat.le_refl _), ?_⟩, qr⟩
  · rw [hsz]; omega
  · intro j v hv
    have hj := lt_len hv
    simp only [cells, Lib.bytesCells, Nat.zero_add]
    rw [Array.getElem?_append_left (by simpa using hj)]
    simpa [byteV] using hv

/-! ### A store into a row of one's own -/
theorem OX_storeRow {x y : Operand} {t E z n c j : Nat} {a : Option Addr} {cs : List Value} {v : Value} (hz : ∀ w, (sizeOf t).run P w = .ok 1 w)
    (hx : ev l x = some (.pointer (some (elA a j)))) (hy : ev l y = some v) (ho : v.oneCell' = true) (ho2 : v.cells = #[v]) (hlt : j < cs.length) :
    OX W P l (rowP E z a n c cs :: R) (.store t x y) ty (fun _ L' => L' = rowP E z a n c (cs.set j v) :: R) := fun ρ hρ w hw _ _ _ _ => by
  obtain ⟨h1, h2, hdj, e, H, hr⟩ := hw.2.2.2
  rcases H with ⟨_, _, rfl, _⟩ | ⟨b, off, xs, fz, rfl, hp, hl, hnc, hoff, hfz, hcell⟩
  · simp at hlt
  · have hw' : Sat W (pt b (.cells xs.toList.toArray E fz) :: R) w := ⟨hw.1, hw.2.1, hw.2.2.1, h1, h2, hdj, e, by simpa using hp, hr⟩
    have hx1 := hcell j cs[j] (by simp)
    have hs := run_store1 (P := P) hw' (by simpa using hfz) ho (off := off + j) (u := cs[j]) (by simpa using hx1)
    have hj2 : off + j < xs.size := (Array.getElem?_eq_some_iff.1 hx1).1
    refine ⟨.skip, w.setCell ⟨b, off + j, none⟩ v, undef, _, ?_, .inr ⟨rfl, rfl⟩, rfl, (hw'.setCell (off + j) v).imp ?_⟩
    · simp only [elA] at hx
      simp [execOp, hρ x _ hx, hρ y _ hy, Instr.storeAt, Instr.sureAddr, storeVar, hz, ho2, storeCells, Addr.add_eq, hs]
    · rintro q ⟨q1, q2, qd, qe, qp, qr⟩
      refine ⟨q1, q2, qd, qe, .inr ⟨b, off, _, fz, rfl, qp, by simpa using hl, hnc, by simpa using hoff, by simpa using hfz, ?_⟩, qr⟩
      intro k u hk
      by_cases e : k = j
      · subst e
        rw [List.getElem?_set_self hlt] at hk
        cases hk
        simp [hj2]
      · rw [List.getElem?_set_ne (Ne.symm e)] at hk
        rw [Array.getElem?_setIfInBounds_ne (by omega)]
        simpa using hcell k u hk
end
end Go.Proofs.Ytmigjpmadhebfaa
