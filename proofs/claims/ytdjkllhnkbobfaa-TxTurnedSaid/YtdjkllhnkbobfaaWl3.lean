/- Parts of what is written and read; the statement on lengths. -/
import Derived.Test.YtdjkllhnkbobfaaWl1
namespace Go.Proofs.Ytdjkllhnkbobfaa
open Go Go.Proofs
set_option maxRecDepth 100000
/-- A part, as it came in. -/
structure Part where
  k : Int
  x : Int
  s : BSl
def Part.cells (q : Part) : List Value := [.int .i64 q.k, .int .u64 q.x, q.s.val]
structure Part.Ok (F : List HProp) (q : Part) : Prop where
  hx : 0 ≤ q.x ∧ q.x < 18446744073709551616
  s : q.s.Ok F
theorem flat_get {Y : Type} {f : Y → List Value} {k : Nat} (hf : ∀ y, (f y).length = k) : ∀ {l : List Y} {i : Nat} {y : Y} (o : Nat), l[i]? = some y → o < k → (l.flatMap f)[i * k + o]? = (f y)[o]?
  | [], i, y, o, h, _ => by simp at h
  | z :: l, 0, y, o, h, ho => by
    simp at h; subst h
    rw [List.flatMap_cons, Nat.zero_mul, Nat.zero_add, List.getElem?_append_left (by rw [hf]; exact ho)]
  | z :: l, i + 1, y, o, h, ho => by
    rw [List.flatMap_cons, List.getElem?_append_right (by rw [hf, Nat.add_mul]; omega), hf, show (i + 1) * k + o - k = i * k + o by rw [Nat.add_mul]; omega]
    exact flat_get hf o (by simpa using h) ho
theorem flat_len {Y : Type} {f : Y → List Value} {k : Nat} (hf : ∀ y, (f y).length = k) : ∀ l : List Y, (l.flatMap f).length = l.length * k
  | [] => by simp
  | z :: l => by rw [List.flatMap_cons, List.length_append, hf, flat_len hf l, List.length_cons, Nat.add_mul]; omega
theorem Part.cells_len (q : Part) : q.cells.length = 3 := rfl
/-- The bytes of a part. -/
def Part.enc (q : Part) : List UInt8 := if q.k % 4 = 0 ∨ q.k % 4 = 1 then bei q.x else bei (q.s.n : Int) ++ q.s.bs
def encP (l : List Part) : List UInt8 := l.flatMap Part.enc
theorem encP_take {l : List Part} {i : Nat} {q : Part} (h : l[i]? = some q) : encP (l.take (i + 1)) = encP (l.take i) ++ q.enc := by
  rw [List.take_add_one, h]; simp [encP]
theorem Part.enc_len (q : Part) (h : q.s.n ≤ 300) (h2 : q.s.bs.length = q.s.n) : q.enc.length ≤ 308 := by
  unfold Part.enc; split
  · rw [bei_length]; omega
  · simp [bei_length]; omega
theorem encP_len : ∀ l : List Part, (∀ q ∈ l, q.s.n ≤ 300 ∧ q.s.bs.length = q.s.n) → (encP l).length ≤ 308 * l.length
  | [], _ => by simp [encP]
  | q :: l, h => by
    have h1 := encP_len l fun y hy => h y (by simp [hy])
    have h2 := Part.enc_len q (h q (by simp)).1 (h q (by simp)).2
    have e : encP (q :: l) = q.enc ++ encP l := by simp [encP]
    rw [e, List.length_append, List.length_cons]; omega
/-- A slice of parts, read. -/
theorem Rdb.parts {H : Type} {enc : TypeId × Value → H} {W : World} {cs : List Value} (h : Rdb enc Try.prog W 41 cs) :
    ∃ a n c, ∃ l : List Part, cs = [.slice a n c] ∧ n ≤ c ∧ c ≤ maxLen ∧ l.length = n ∧ (∀ y ∈ l, y.Ok [junk, old W]) ∧ HasRow [junk, old W] a (l.flatMap Part.cells) := by
  refine Rdb.rowk (f := Part.cells) (k := 3) (Q := Part.Ok [junk, old W]) (fun _ => rfl) Try.underlying41 (by kernel_rfl) (fun r hr => ?_) h
  obtain ⟨h1, h2⟩ := hr.agg Try.underlying43
  rw [show Try.prog.cellsOf 43 = 3 by kernel_rfl] at h1
  obtain ⟨x, y, z, rfl⟩ : ∃ x y z, r = [x, y, z] := by
    match r, h1 with
    | [x, y, z], _ => exact ⟨x, y, z, rfl⟩
  have f0 : Rdb enc Try.prog W 3 (([x, y, z].drop 0).take (Try.prog.cellsOf 3)) := h2 0 _ rfl
  have f1 : Rdb enc Try.prog W 23 (([x, y, z].drop 1).take (Try.prog.cellsOf 23)) := h2 1 _ rfl
  have f2 : Rdb enc Try.prog W 25 (([x, y, z].drop 2).take (Try.prog.cellsOf 25)) := h2 2 _ rfl
  rw [show Try.prog.cellsOf 3 = 1 by kernel_rfl] at f0
  rw [show Try.prog.cellsOf 23 = 1 by kernel_rfl] at f1
  rw [show Try.prog.cellsOf 25 = 1 by kernel_rfl] at f2
  obtain ⟨k, e0, w0⟩ := Rdb.int Try.underlying3 f0
  obtain ⟨u, e1, w1⟩ := Rdb.int Try.underlying23 f1
  obtain ⟨a, n, c, bs, e2, _, _, hb, hr2⟩ := Rdb.bytes Try.underlying25 Try.underlying5 (by kernel_rfl) f2
  simp at e0 e1 e2
  subst e0; subst e1; subst e2
  have := Go.bounds_u64 w1
  exact ⟨⟨k, u, ⟨a, n, c, bs⟩⟩, rfl, ⟨by show 0 ≤ u ∧ u < _; omega, ⟨hb, hr2⟩⟩⟩
theorem bei_wrapi (x : Int) : bei (IntKind.i64.wrap x) = bei x := by
  rw [← bei_wrap (IntKind.i64.wrap x), ← bei_wrap x]
  congr 1
  rw [IntKind.wrap_u64, IntKind.wrap_u64, IntKind.wrap_i64]
  omega

theorem law_WireLong {W : World} {F : List HProp} [Abs F] (a : Option Addr) (n c : Nat) (l : List Part) [HasRow F a (l.flatMap Part.cells)] (hn : l.length = n) (hl : ∀ q ∈ l, q.Ok F) :
    CallsK W Try.prog 5 #[.slice a n c] (F) (fun v L => v = .bool true ∧ Lands L F) := by
  refine CallsK_enter (n := 75) Try.func5 rfl rfl rfl ?_
  refine SC_seq ?_
  refine SC_region ?_
  refine SR_pu (RD_assign rfl) rfl ?_
  refine SR_nil ?_
  refine SN.le (l := [(0, _)]) ?_ (.cons rfl (.nil))
  refine SN_seq ?_
  refine SC_seq ?_
  refine SC_region ?_
  refine SR_call Try.call16 (.nil) (wire_New) (lts rfl) ?_
  rintro _ L0 ⟨p, rfl, hL0⟩
  refine SR.lands hL0 ?_
  refine SR_pu (RD_assign rfl) rfl ?_
  refine SR_nil ?_
  refine SN.le (l := [(0, _), (3, _)]) ?_ (.cons rfl (.cons rfl (.nil)))
  refine SN_seq ?_
  refine SC_seq ?_
  refine SC_seq ?_
  refine SC_region ?_
  refine SR_pu (RD_move rfl) rfl ?_
  refine SR_pu (RD_eqlP Try.underlying27 rfl rfl) rfl ?_
  refine SR_nil ?_
  refine SN.le (l := [(0, _), (3, _), (8, _)]) ?_ (.cons rfl (.cons rfl (.cons rfl (.nil))))
  refine SN_seq ?_
  refine SC_cond_false rfl (rfl) ?_
  refine SC_skip ?_
  refine SN_seq ?_
  refine SC_seq ?_
  refine SC_region ?_
  refine SR_pu (RD_assign rfl) rfl ?_
  refine SR_nil ?_
  refine SN.le (l := [(0, _), (3, _), (4, _)]) ?_ (.cons rfl (.cons rfl (.cons rfl (.nil))))
  refine SN_seq ?_
  refine SC_seq ?_
  refine SC_seq ?_
  refine SC_region ?_
  refine SR_pu (RD_assign rfl) rfl ?_
  refine SR_nil ?_
  refine SN.le (l := [(0, _), (3, _), (4, _), (5, _)]) ?_ (.cons rfl (.cons rfl (.cons rfl (.cons rfl (.nil)))))
  refine SN_seq ?_
  refine SC_block ?_
  refine SC_ind (X := Nat) (fun i => i ≤ 20 ∧ ∀ q ∈ l.take i, q.s.n ≤ 300 ∧ q.s.bs.length = q.s.n) (fun i => 20 - i) (fun i => [(0, .slice a n c), (3, .pointer (some ⟨p, 0, none⟩)), (4, .int .i64 ((encP (l.take i)).length : Nat)), (5, .int .i64 (i : Nat))]) (fun i => At writerI p (encP (l.take i)) :: F) (0) (⟨by omega, by simp⟩) (.cons rfl (.cons rfl (.cons rfl (.cons rfl (.nil))))) ((show Lands _ (At writerI p [] :: F) from .fin)) ?_
  intro i hi ih
  obtain ⟨hi1, hsm⟩ := hi
  have hel := encP_len (l.take i) hsm
  have htl : (l.take i).length ≤ 20 := by simp; omega
  refine SC_seq ?_
  refine SC_seq ?_
  refine SC_region ?_
  refine SR_pu (RD_move rfl) rfl ?_
  refine SR_pu (RD_move rfl) rfl ?_
  refine SR_pu (RD_len Try.runUnderlying41 rfl) rfl ?_
  refine SR_pu (RD_lss rfl rfl) rfl ?_
  refine SR_pu (RD_move rfl) rfl ?_
  refine SR_guard rfl rfl (fun hg6_4 => ?_) (fun hg6_4 => ?_)
  · refine SR_yes rfl rfl (hg6_4) ?_
    refine SR_pu (RD_move rfl) rfl ?_
    refine SR_yes rfl rfl (hg6_4) ?_
    refine SR_pu (RD_lss rfl rfl) rfl ?_
    refine SR_pu (RD_pick_t rfl (hg6_4) rfl) rfl ?_
    refine SR_nil ?_
    refine SN.le (l := [(0, _), (3, _), (4, _), (5, _), (16, _)]) ?_ (.cons rfl (.cons rfl (.cons rfl (.cons rfl (.cons rfl (.nil))))))
    refine SN_seq ?_
    refine SC_cond rfl (fun hc16 => ?_) (fun hc16 => ?_)
    · have hil : i < l.length := by simp at hg6_4; omega
      have hi20 : i < 20 := by simp at hc16; omega
      obtain ⟨q, hq⟩ : ∃ q, l[i]? = some q := ⟨_, List.getElem?_eq_getElem hil⟩
      have hok := hl q (List.mem_of_getElem? hq)
      haveI := hok.s.r
      refine SC_skip ?_
      refine SN_seq ?_
      refine SC_seq ?_
      refine SC_block ?_
      refine SC_seq ?_
      refine SC_seq ?_
      refine SC_region ?_
      refine SR_pu (RD_move rfl) rfl ?_
      refine SR_pu (RD_move rfl) rfl ?_
      refine SR_rd (RD_ixO (cs := l.flatMap Part.cells) Try.runUnderlying41 Try.sizeOf43 rfl rfl (by rw [flat_len Part.cells_len, hn]) (by omega) (by omega)) Has.ro rfl ?_
      refine SR_rd (RD_fieldAddrO (cs := l.flatMap Part.cells) 2 Try.runUnderlying43 rfl rfl Try.sizeOf25 rfl (by rw [flat_len Part.cells_len, hn]; omega)) Has.ro rfl ?_
      refine SR_rd (RD_loadO (v := q.s.val) (cs := l.flatMap Part.cells) Try.isAgg25 rfl (flat_get Part.cells_len 2 hq (by omega))) Has.ro rfl ?_
      refine SR_pu (RD_len Try.runUnderlying25 rfl) rfl ?_
      refine SR_pu (RD_gtr rfl rfl) rfl ?_
      refine SR_nil ?_
      refine SN.le (l := [(0, _), (3, _), (4, _), (5, _), (25, _)]) ?_ (.cons rfl (.cons rfl (.cons rfl (.cons rfl (.cons rfl (.nil))))))
      refine SN_seq ?_
      refine SC_cond rfl (fun hc25 => ?_) (fun hc25 => ?_)
      · refine SC_seq ?_
        refine SC_region ?_
        refine SR_call Try.call15 (.nil) (wire_awake) (lts rfl) ?_
        rintro _ L9 ⟨rfl, hL9⟩
        refine SR.lands hL9 ?_
        refine SR_pu (RD_assign rfl) rfl ?_
        refine SR_nil ?_
        refine SN.le (l := [(2, _)]) ?_ (.cons rfl (.nil))
        refine SN_seq ?_
        refine SC_ret1 rfl rfl ?_
        exact ⟨rfl, .fin⟩
      · have hs200 : q.s.n ≤ 200 := by simp at hc25; omega
        refine SC_skip ?_
        refine SN_seq ?_
        refine SC_seq ?_
        refine SC_region ?_
        refine SR_pu (RD_move rfl) rfl ?_
        refine SR_pu (RD_addi rfl rfl (by omega) (by omega)) rfl ?_
        refine SR_pu (RD_assign rfl) rfl ?_
        refine SR_nil ?_
        refine SN.le (l := [(0, _), (3, _), (4, _), (5, _)]) ?_ (.cons rfl (.cons rfl (.cons rfl (.cons rfl (.nil)))))
        refine SN_seq ?_
        refine SC_seq ?_
        refine SC_seq ?_
        refine SC_region ?_
        refine SR_pu (RD_move rfl) rfl ?_
        refine SR_pu (RD_move rfl) rfl ?_
        refine SR_rd (RD_ixO (cs := l.flatMap Part.cells) Try.runUnderlying41 Try.sizeOf43 rfl rfl (by rw [flat_len Part.cells_len, hn]) (by omega) (by omega)) Has.ro rfl ?_
        refine SR_rd (RD_fieldAddrO (cs := l.flatMap Part.cells) 0 Try.runUnderlying43 rfl rfl Try.sizeOf3 rfl (by rw [flat_len Part.cells_len, hn]; omega)) Has.ro rfl ?_
        refine SR_rd (RD_loadO (v := .int .i64 q.k) (cs := l.flatMap Part.cells) Try.isAgg3 rfl (flat_get Part.cells_len 0 hq (by omega))) Has.ro rfl ?_
        refine SR_pu (RD_mask 2 rfl rfl rfl (by decide) 4 rfl) rfl ?_
        refine SR_nil ?_
        refine SN.le (l := [(0, _), (3, _), (4, _), (5, _), (34, _)]) ?_ (.cons rfl (.cons rfl (.cons rfl (.cons rfl (.cons rfl (.nil))))))
        refine SN_seq ?_
        refine SC_block ?_
        refine SC_seq ?_
        refine SC_region ?_
        refine SR_pu (RD_eql rfl rfl) rfl ?_
        refine SR_pu (RD_assign rfl) rfl ?_
        refine SR_nil ?_
        refine SN.le (l := [(0, _), (3, _), (4, _), (5, _), (34, _), (50, _)]) ?_ (.cons rfl (.cons rfl (.cons rfl (.cons rfl (.cons rfl (.cons rfl (.nil)))))))
        refine SN_seq ?_
        refine SC_cond rfl (fun hc50 => ?_) (fun hc50 => ?_)
        · have hk : q.k % 4 = 0 := by simpa using hc50
          have henc : q.enc = bei q.x := if_pos (.inl hk)
          have hsum := encP_take hq
          rw [henc] at hsum
          refine SC_region ?_
          refine SR_pu (RD_move rfl) rfl ?_
          refine SR_pu (RD_move rfl) rfl ?_
          refine SR_pu (RD_move rfl) rfl ?_
          refine SR_rd (RD_ixO (cs := l.flatMap Part.cells) Try.runUnderlying41 Try.sizeOf43 rfl rfl (by rw [flat_len Part.cells_len, hn]) (by omega) (by omega)) Has.ro rfl ?_
          refine SR_rd (RD_fieldAddrO (cs := l.flatMap Part.cells) 1 Try.runUnderlying43 rfl rfl Try.sizeOf23 rfl (by rw [flat_len Part.cells_len, hn]; omega)) Has.ro rfl ?_
          refine SR_rd (RD_loadO (v := .int .u64 q.x) (cs := l.flatMap Part.cells) Try.isAgg23 rfl (flat_get Part.cells_len 1 hq (by omega))) Has.ro rfl ?_
          refine SR_call Try.call19 (.cons rfl (.cons rfl (.nil))) (CallsK.at (wire_Num p (encP (l.take i)) q.x hok.hx (by omega))) (lts rfl) ?_
          rintro _ L1 ⟨rfl, hL1⟩
          refine SR.lands hL1 ?_
          refine SR_nil ?_
          refine SN.le (l := [(0, _), (3, _), (4, _), (5, _)]) ?_ (.cons rfl (.cons rfl (.cons rfl (.cons rfl (.nil)))))
          refine SN_block ?_
          refine SN_seq ?_
          refine SC_seq ?_
          refine SC_region ?_
          refine SR_pu (RD_move rfl) rfl ?_
          refine SR_call Try.call20 (.cons rfl (.nil)) (CallsK.at (wire_Bytes p (encP (l.take i) ++ bei q.x) (by simp [bei_length, hok.s.hn]; omega))) (lts rfl) ?_
          rintro _ L4 ⟨a4, c4, rfl, hL4⟩
          refine SR.lands hL4 ?_
          refine SR_pu (RD_len Try.runUnderlying25 rfl) rfl ?_
          refine SR_pu (RD_move rfl) rfl ?_
          refine SR_pu (RD_neq rfl rfl) rfl ?_
          refine SR_nil ?_
          refine SN.le (l := [(0, _), (3, _), (4, _), (5, _), (73, _)]) ?_ (.cons rfl (.cons rfl (.cons rfl (.cons rfl (.cons rfl (.nil))))))
          refine SN_seq ?_
          refine SC_cond_false rfl (by simp [bei_length, hok.s.hn]; try omega) ?_
          refine SC_skip ?_
          refine SN_block ?_
          refine SN_seq ?_
          refine SC_region ?_
          refine SR_pu (RD_move rfl) rfl ?_
          refine SR_pu (RD_addi rfl rfl (by omega) (by omega)) rfl ?_
          refine SR_pu (RD_assign rfl) rfl ?_
          refine SR_nil ?_
          refine SN.le (l := [(0, _), (3, _), (4, _), (5, _)]) ?_ (.cons rfl (.cons rfl (.cons rfl (.cons rfl (.nil)))))
          refine SC_again (ih (i + 1) (⟨by omega, fun z hz => by rw [List.take_add_one, hq] at hz; rcases List.mem_append.1 hz with hz | hz; exact hsm z hz; simp at hz; subst hz; exact ⟨by omega, hok.s.hn⟩⟩) (by omega)) (by rw [hsum]; exact .fin) (.cons rfl (.cons rfl (.cons' rfl (ie (by rw [hsum]; simp [bei_length, hok.s.hn]; try omega)) (.cons' rfl (ie (by omega)) (.nil)))))
        · refine SC_seq ?_
          refine SC_region ?_
          refine SR_pu (RD_eql rfl rfl) rfl ?_
          refine SR_pu (RD_assign rfl) rfl ?_
          refine SR_nil ?_
          refine SN.le (l := [(0, _), (3, _), (4, _), (5, _), (59, _)]) ?_ (.cons rfl (.cons rfl (.cons rfl (.cons rfl (.cons rfl (.nil))))))
          refine SN_seq ?_
          refine SC_cond rfl (fun hc59 => ?_) (fun hc59 => ?_)
          · have hk : q.k % 4 = 1 := by simpa using hc59
            have henc : q.enc = bei q.x := if_pos (.inr hk)
            have hsum := encP_take hq
            rw [henc] at hsum
            refine SC_region ?_
            refine SR_pu (RD_move rfl) rfl ?_
            refine SR_pu (RD_move rfl) rfl ?_
            refine SR_pu (RD_move rfl) rfl ?_
            refine SR_rd (RD_ixO (cs := l.flatMap Part.cells) Try.runUnderlying41 Try.sizeOf43 rfl rfl (by rw [flat_len Part.cells_len, hn]) (by omega) (by omega)) Has.ro rfl ?_
            refine SR_rd (RD_fieldAddrO (cs := l.flatMap Part.cells) 1 Try.runUnderlying43 rfl rfl Try.sizeOf23 rfl (by rw [flat_len Part.cells_len, hn]; omega)) Has.ro rfl ?_
            refine SR_rd (RD_loadO (v := .int .u64 q.x) (cs := l.flatMap Part.cells) Try.isAgg23 rfl (flat_get Part.cells_len 1 hq (by omega))) Has.ro rfl ?_
            refine SR_pu (RD_convI Try.runUnderlying23 Try.runUnderlying3 rfl) rfl ?_
            refine SR_call Try.call17 (.cons rfl (.cons rfl (.nil))) (CallsK.at (wire_Int p (encP (l.take i)) (IntKind.i64.wrap q.x) (by omega))) (lts rfl) ?_
            rintro _ L1 ⟨rfl, hL1⟩
            rw [bei_wrapi] at hL1
            refine SR.lands hL1 ?_
            refine SR_nil ?_
            refine SN.le (l := [(0, _), (3, _), (4, _), (5, _)]) ?_ (.cons rfl (.cons rfl (.cons rfl (.cons rfl (.nil)))))
            refine SN_block ?_
            refine SN_seq ?_
            refine SC_seq ?_
            refine SC_region ?_
            refine SR_pu (RD_move rfl) rfl ?_
            refine SR_call Try.call20 (.cons rfl (.nil)) (CallsK.at (wire_Bytes p (encP (l.take i) ++ bei q.x) (by simp [bei_length, hok.s.hn]; omega))) (lts rfl) ?_
            rintro _ L4 ⟨a4, c4, rfl, hL4⟩
            refine SR.lands hL4 ?_
            refine SR_pu (RD_len Try.runUnderlying25 rfl) rfl ?_
            refine SR_pu (RD_move rfl) rfl ?_
            refine SR_pu (RD_neq rfl rfl) rfl ?_
            refine SR_nil ?_
            refine SN.le (l := [(0, _), (3, _), (4, _), (5, _), (73, _)]) ?_ (.cons rfl (.cons rfl (.cons rfl (.cons rfl (.cons rfl (.nil))))))
            refine SN_seq ?_
            refine SC_cond_false rfl (by simp [bei_length, hok.s.hn]; try omega) ?_
            refine SC_skip ?_
            refine SN_block ?_
            refine SN_seq ?_
            refine SC_region ?_
            refine SR_pu (RD_move rfl) rfl ?_
            refine SR_pu (RD_addi rfl rfl (by omega) (by omega)) rfl ?_
            refine SR_pu (RD_assign rfl) rfl ?_
            refine SR_nil ?_
            refine SN.le (l := [(0, _), (3, _), (4, _), (5, _)]) ?_ (.cons rfl (.cons rfl (.cons rfl (.cons rfl (.nil)))))
            refine SC_again (ih (i + 1) (⟨by omega, fun z hz => by rw [List.take_add_one, hq] at hz; rcases List.mem_append.1 hz with hz | hz; exact hsm z hz; simp at hz; subst hz; exact ⟨by omega, hok.s.hn⟩⟩) (by omega)) (by rw [hsum]; exact .fin) (.cons rfl (.cons rfl (.cons' rfl (ie (by rw [hsum]; simp [bei_length, hok.s.hn]; try omega)) (.cons' rfl (ie (by omega)) (.nil)))))
          · have hk : ¬ (q.k % 4 = 0 ∨ q.k % 4 = 1) := by simp at hc50 hc59; omega
            have henc : q.enc = bei (q.s.n : Int) ++ q.s.bs := if_neg hk
            have hsum := encP_take hq
            rw [henc] at hsum
            refine SC_seq ?_
            refine SC_region ?_
            refine SR_pu (RD_move rfl) rfl ?_
            refine SR_pu (RD_move rfl) rfl ?_
            refine SR_pu (RD_move rfl) rfl ?_
            refine SR_rd (RD_ixO (cs := l.flatMap Part.cells) Try.runUnderlying41 Try.sizeOf43 rfl rfl (by rw [flat_len Part.cells_len, hn]) (by omega) (by omega)) Has.ro rfl ?_
            refine SR_rd (RD_fieldAddrO (cs := l.flatMap Part.cells) 2 Try.runUnderlying43 rfl rfl Try.sizeOf25 rfl (by rw [flat_len Part.cells_len, hn]; omega)) Has.ro rfl ?_
            refine SR_rd (RD_loadO (v := q.s.val) (cs := l.flatMap Part.cells) Try.isAgg25 rfl (flat_get Part.cells_len 2 hq (by omega))) Has.ro rfl ?_
            refine SR_call Try.call18 (.cons rfl (.cons rfl (.nil))) (CallsK.at (wire_Text p (encP (l.take i)) q.s.bs q.s.a q.s.n q.s.c rfl hok.s.hn (by omega))) (lts rfl) ?_
            rintro _ L1 ⟨rfl, hL1⟩
            refine SR.lands hL1 ?_
            refine SR_nil ?_
            refine SN.le (l := [(0, _), (3, _), (4, _), (5, _)]) ?_ (.cons rfl (.cons rfl (.cons rfl (.cons rfl (.nil)))))
            refine SN_seq ?_
            refine SC_region ?_
            refine SR_pu (RD_move rfl) rfl ?_
            refine SR_pu (RD_move rfl) rfl ?_
            refine SR_pu (RD_move rfl) rfl ?_
            refine SR_rd (RD_ixO (cs := l.flatMap Part.cells) Try.runUnderlying41 Try.sizeOf43 rfl rfl (by rw [flat_len Part.cells_len, hn]) (by omega) (by omega)) Has.ro rfl ?_
            refine SR_rd (RD_fieldAddrO (cs := l.flatMap Part.cells) 2 Try.runUnderlying43 rfl rfl Try.sizeOf25 rfl (by rw [flat_len Part.cells_len, hn]; omega)) Has.ro rfl ?_
            refine SR_rd (RD_loadO (v := q.s.val) (cs := l.flatMap Part.cells) Try.isAgg25 rfl (flat_get Part.cells_len 2 hq (by omega))) Has.ro rfl ?_
            refine SR_pu (RD_len Try.runUnderlying25 rfl) rfl ?_
            refine SR_pu (RD_addi rfl rfl (by omega) (by omega)) rfl ?_
            refine SR_pu (RD_assign rfl) rfl ?_
            refine SR_nil ?_
            refine SN.le (l := [(0, _), (3, _), (4, _), (5, _)]) ?_ (.cons rfl (.cons rfl (.cons rfl (.cons rfl (.nil)))))
            refine SN_block ?_
            refine SN_seq ?_
            refine SC_seq ?_
            refine SC_region ?_
            refine SR_pu (RD_move rfl) rfl ?_
            refine SR_call Try.call20 (.cons rfl (.nil)) (CallsK.at (wire_Bytes p (encP (l.take i) ++ (bei (q.s.n : Int) ++ q.s.bs)) (by simp [bei_length, hok.s.hn]; omega))) (lts rfl) ?_
            rintro _ L4 ⟨a4, c4, rfl, hL4⟩
            refine SR.lands hL4 ?_
            refine SR_pu (RD_len Try.runUnderlying25 rfl) rfl ?_
            refine SR_pu (RD_move rfl) rfl ?_
            refine SR_pu (RD_neq rfl rfl) rfl ?_
            refine SR_nil ?_
            refine SN.le (l := [(0, _), (3, _), (4, _), (5, _), (73, _)]) ?_ (.cons rfl (.cons rfl (.cons rfl (.cons rfl (.cons rfl (.nil))))))
            refine SN_seq ?_
            refine SC_cond_false rfl (by simp [bei_length, hok.s.hn]; try omega) ?_
            refine SC_skip ?_
            refine SN_block ?_
            refine SN_seq ?_
            refine SC_region ?_
            refine SR_pu (RD_move rfl) rfl ?_
            refine SR_pu (RD_addi rfl rfl (by omega) (by omega)) rfl ?_
            refine SR_pu (RD_assign rfl) rfl ?_
            refine SR_nil ?_
            refine SN.le (l := [(0, _), (3, _), (4, _), (5, _)]) ?_ (.cons rfl (.cons rfl (.cons rfl (.cons rfl (.nil)))))
            refine SC_again (ih (i + 1) (⟨by omega, fun z hz => by rw [List.take_add_one, hq] at hz; rcases List.mem_append.1 hz with hz | hz; exact hsm z hz; simp at hz; subst hz; exact ⟨by omega, hok.s.hn⟩⟩) (by omega)) (by rw [hsum]; exact .fin) (.cons rfl (.cons rfl (.cons' rfl (ie (by rw [hsum]; simp [bei_length, hok.s.hn]; try omega)) (.cons' rfl (ie (by omega)) (.nil)))))
    · refine SC_exit rfl ?_
      refine SN_seq ?_
      refine SC_seq ?_
      refine SC_region ?_
      refine SR_call Try.call15 (.nil) (wire_awake) (lts rfl) ?_
      rintro _ L9 ⟨rfl, hL9⟩
      refine SR.lands hL9 ?_
      refine SR_pu (RD_assign rfl) rfl ?_
      refine SR_nil ?_
      refine SN.le (l := [(2, _)]) ?_ (.cons rfl (.nil))
      refine SN_seq ?_
      refine SC_ret1 rfl rfl ?_
      exact ⟨rfl, .fin⟩
  · refine SR_no rfl rfl (hg6_4) (lts rfl) ?_
    refine SR_no rfl rfl (hg6_4) (lts rfl) ?_
    refine SR_pu (RD_pick_f rfl (hg6_4) rfl) rfl ?_
    refine SR_nil ?_
    refine SN.le (l := [(0, _), (3, _), (4, _), (5, _), (16, _)]) ?_ (.cons rfl (.cons rfl (.cons rfl (.cons rfl (.cons rfl (.nil))))))
    refine SN_seq ?_
    refine SC_cond_false rfl (rfl) ?_
    refine SC_exit rfl ?_
    refine SN_seq ?_
    refine SC_seq ?_
    refine SC_region ?_
    refine SR_call Try.call15 (.nil) (wire_awake) (lts rfl) ?_
    rintro _ L9 ⟨rfl, hL9⟩
    refine SR.lands hL9 ?_
    refine SR_pu (RD_assign rfl) rfl ?_
    refine SR_nil ?_
    refine SN.le (l := [(2, _)]) ?_ (.cons rfl (.nil))
    refine SN_seq ?_
    refine SC_ret1 rfl rfl ?_
    exact ⟨rfl, .fin⟩

end Go.Proofs.Ytdjkllhnkbobfaa
