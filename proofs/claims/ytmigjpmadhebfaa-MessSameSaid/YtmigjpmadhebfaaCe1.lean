/- The book of signatures: its functions. -/
import Derived.Test.YtmigjpmadhebfaaOb2
namespace Go.Proofs.Ytmigjpmadhebfaa
open Go Go.Proofs
set_option maxRecDepth 100000
def putW (ws : List Int) (w : Int) : List Int := if w ∈ ws then ws else ws ++ [w]
def addTo : List (Int × List Int) → Int → Int → List (Int × List Int)
  | [], w, k => [(k, [w])]
  | (a, ws) :: r, w, k => if k = a then (a, putW ws w) :: r else (a, ws) :: addTo r w k
def signers : List (Int × List Int) → Int → List Int
  | [], _ => []
  | (a, ws) :: r, k => if k = a then ws else signers r k
theorem big_nil {R : List HProp} : Lands R (bigP [] :: R) := fun m H => big_flat.2 H
theorem mset_ws (ws : List Int) (w : Int) : mset (ws.map fun w => (w, Value.int .i64 1)) w (.int .i64 1) = (putW ws w).map fun w => (w, Value.int .i64 1) := by
  induction ws with
  | nil => rfl
  | cons x ws ih =>
    simp only [List.map_cons, mset]
    by_cases h : w = x
    · subst h; simp [putW]
    · rw [if_neg h, ih]
      unfold putW
      by_cases hm : w ∈ ws <;> simp [hm, h]
theorem mget_ws (ws : List Int) (w : Int) : mget (ws.map fun w => (w, Value.int .i64 1)) w = if w ∈ ws then some (.int .i64 1) else none := by
  induction ws with
  | nil => rfl
  | cons x ws ih =>
    simp only [List.map_cons, mget]
    by_cases h : w = x
    · subst h; simp
    · rw [if_neg h, ih]; simp [h]
theorem book_find (T : List (Int × Nat × List Int)) (k : Int) : (mget (outer T) k = none ∧ signers (sgn T) k = [] ∧ (∀ b, mset (outer T) k (.map (some b)) = outer (T ++ [(k, b, [])])) ∧ ∀ w, addTo (sgn T) w k = sgn T ++ [(k, [w])]) ∨
    ∃ A b ws B, T = A ++ (k, b, ws) :: B ∧ mget (outer T) k = some (.map (some b)) ∧ signers (sgn T) k = ws ∧ ∀ w, addTo (sgn T) w k = sgn (A ++ (k, b, putW ws w) :: B) := by
  induction T with
  | nil => exact .inl ⟨rfl, rfl, fun _ => rfl, fun _ => rfl⟩
  | cons t T ih =>
    obtain ⟨a, b, ws⟩ := t
    by_cases h : k = a
    · subst h
      exact .inr ⟨[], b, ws, T, rfl, by simp [outer, mget], by simp [sgn, signers], fun w => by simp [sgn, addTo]⟩
    · rcases ih with ⟨h1, h2, h3, h4⟩ | ⟨A, b', ws', B, h1, h2, h3, h4⟩
      · refine .inl ⟨?_, ?_, fun b' => ?_, fun w => ?_⟩
        · simpa [outer, mget, h] using h1
        · simpa [sgn, signers, h] using h2
        · have := h3 b'
          simp only [outer, List.map_cons, mset, if_neg h, List.cons_append] at this ⊢
          rw [this]
        · have := h4 w
          simp only [sgn, List.map_cons, addTo, if_neg h, List.cons_append] at this ⊢
          rw [this]
      · refine .inr ⟨(a, b, ws) :: A, b', ws', B, by rw [h1]; rfl, ?_, ?_, fun w => ?_⟩
        · simpa [outer, mget, h] using h2
        · simpa [sgn, signers, h] using h3
        · have := h4 w
          simp only [sgn, List.map_cons, addTo, if_neg h, List.cons_append] at this ⊢
          rw [this]

theorem sign_New {W : World} {F : List HProp} [Abs F] :
    CallsK W Try.prog 40 #[] (F) (fun v L => ∃ p, v = .pointer (some ⟨p, 0, none⟩) ∧ Lands L (At bookI p [] :: F)) := by
  refine CallsK_enter (n := 4) Try.func40 rfl rfl rfl ?_
  refine SC_seq ?_
  refine SC_region ?_
  refine SR_pu (RD_assign rfl) rfl ?_
  refine SR_nil ?_
  refine SN.le (l := []) ?_ (.nil)
  refine SN_seq ?_
  refine SC_seq ?_
  refine SC_region ?_
  refine SR_ox (OX_mk intK) rfl ?_
  rintro _ _ ⟨b1, rfl, rfl⟩
  refine SR_pu (RD_build (.cons rfl (.nil)) built99_0) rfl ?_
  refine SR_ox (OX_box rfl rfl) rfl ?_
  rintro _ _ ⟨b3, rfl, rfl⟩
  refine SR_pu (RD_assign rfl) rfl ?_
  refine SR_nil ?_
  refine SN.le (l := [(0, _)]) ?_ (.cons rfl (.nil))
  refine SN_seq ?_
  refine SC_ret1 rfl rfl ?_
  refine ⟨_, rfl, ?_⟩
  exact (Lands.cons (Lands.cons (big_nil (R := F)))).trans (close_book (p := b3) (T := []) (S := []) (.refl _) rfl rfl)

theorem book_Has_no {W : World} {F : List HProp} [Abs F] (p : Nat) (m : Nat) (T : List (Int × Nat × List Int)) (w k : Int) (h1 : mget (outer T) k = none) (h2 : signers (sgn T) k = []) :
    CallsK W Try.prog 46 #[.pointer (some ⟨p, 0, none⟩), .int .i64 w, .int .i64 k] (pt p (.cells [.map (some m)].toArray 99) :: mapP intK m (outer T) :: bigP T :: F) (fun v L => v = .bool (decide (w ∈ signers (sgn T) k)) ∧ Lands L (At bookI p (sgn T) :: F)) := by
  refine CallsK_enter (n := 16) Try.func46 rfl rfl rfl ?_
  refine SC_seq ?_
  refine SC_region ?_
  refine SR_pu (RD_assign rfl) rfl ?_
  refine SR_nil ?_
  refine SN.le (l := [(0, _), (1, _), (2, _)]) ?_ (.cons rfl (.cons rfl (.cons rfl (.nil))))
  refine SN_seq ?_
  refine SC_seq ?_
  refine SC_region ?_
  refine SR_pu (RD_move rfl) rfl ?_
  refine SR_pu (RD_nilCheck rfl) rfl ?_
  first
    | refine SR_pu (RD_fieldAddr0 Try.runUnderlying99 rfl rfl Try.sizeOf97 rfl) rfl ?_
    | refine SR_rd (RD_fieldAddrO 0 Try.runUnderlying99 rfl rfl Try.sizeOf97 rfl (by simp <;> omega)) Has.ro rfl ?_
  refine SR_rd (RD_load Try.isAgg97 rfl) (Has.ce rfl) rfl ?_
  refine SR_pu (RD_move rfl) rfl ?_
  refine SR_rd (RD_lookup (K := intK) (m := outer T) Try.underlying97 Try.underlying3 Try.zeroValue96 rfl rfl) (Has.ma (K := intK)) rfl ?_
  refine SR_pu (RD_move rfl) rfl ?_
  refine SR_pu (RD_lookupN (K := intK) Try.underlying96 Try.underlying3 Try.zeroValue3 (by rw [h1]; rfl) rfl) rfl ?_
  refine SR_pu (RD_gtr rfl rfl) rfl ?_
  refine SR_pu (RD_assign rfl) rfl ?_
  refine SR_nil ?_
  refine SN.le (l := [(6, _)]) ?_ (.cons rfl (.nil))
  refine SN_seq ?_
  refine SC_ret1 rfl rfl ?_
  exact ⟨by rw [h2]; rfl, (close_book (p := p) (T := T) (.refl _) rfl rfl).trans .fin⟩

theorem iget_ws (ws : List Int) (w : Int) : iget (ws.map fun w => (w, Value.int .i64 1)) w = if w ∈ ws then 1 else 0 := by
  unfold iget; rw [mget_ws]
  by_cases h : w ∈ ws <;> simp [h]
theorem or_ws (ws : List Int) (w : Int) : mget (ws.map fun w => (w, Value.int .i64 1)) w = none ∨ ∃ n, mget (ws.map fun w => (w, Value.int .i64 1)) w = some (.int .i64 n) := by
  rw [mget_ws]
  by_cases h : w ∈ ws
  · exact .inr ⟨1, by simp [h]⟩
  · exact .inl (by simp [h])

theorem book_Has_yes {W : World} {F : List HProp} [Abs F] (p : Nat) (m b : Nat) (A B : List (Int × Nat × List Int)) (ws : List Int) (w k : Int) (h1 : mget (outer (A ++ (k, b, ws) :: B)) k = some (.map (some b))) (h2 : signers (sgn (A ++ (k, b, ws) :: B)) k = ws) :
    CallsK W Try.prog 46 #[.pointer (some ⟨p, 0, none⟩), .int .i64 w, .int .i64 k] (pt p (.cells [.map (some m)].toArray 99) :: mapP intK m (outer (A ++ (k, b, ws) :: B)) :: mapP intK b (ws.map fun w => (w, Value.int .i64 1)) :: bigP (A ++ B) :: F) (fun v L => v = .bool (decide (w ∈ signers (sgn (A ++ (k, b, ws) :: B)) k)) ∧ Lands L (At bookI p (sgn (A ++ (k, b, ws) :: B)) :: F)) := by
  refine CallsK_enter (n := 16) Try.func46 rfl rfl rfl ?_
  refine SC_seq ?_
  refine SC_region ?_
  refine SR_pu (RD_assign rfl) rfl ?_
  refine SR_nil ?_
  refine SN.le (l := [(0, _), (1, _), (2, _)]) ?_ (.cons rfl (.cons rfl (.cons rfl (.nil))))
  refine SN_seq ?_
  refine SC_seq ?_
  refine SC_region ?_
  refine SR_pu (RD_move rfl) rfl ?_
  refine SR_pu (RD_nilCheck rfl) rfl ?_
  first
    | refine SR_pu (RD_fieldAddr0 Try.runUnderlying99 rfl rfl Try.sizeOf97 rfl) rfl ?_
    | refine SR_rd (RD_fieldAddrO 0 Try.runUnderlying99 rfl rfl Try.sizeOf97 rfl (by simp <;> omega)) Has.ro rfl ?_
  refine SR_rd (RD_load Try.isAgg97 rfl) (Has.ce rfl) rfl ?_
  refine SR_pu (RD_move rfl) rfl ?_
  refine SR_rd (RD_lookS (K := intK) (m := outer (A ++ (k, b, ws) :: B)) Try.underlying97 Try.underlying3 Try.zeroValue96 rfl rfl h1) (Has.ma (K := intK)) rfl ?_
  refine SR_pu (RD_move rfl) rfl ?_
  refine SR_rd (RD_lookI (m := (ws.map fun w => (w, Value.int .i64 1))) Try.underlying96 Try.underlying3 Try.zeroValue3 rfl rfl (or_ws ws w)) (Has.ma (K := intK)) rfl ?_
  refine SR_pu (RD_gtr rfl rfl) rfl ?_
  refine SR_pu (RD_assign rfl) rfl ?_
  refine SR_nil ?_
  refine SN.le (l := [(6, _)]) ?_ (.cons rfl (.nil))
  refine SN_seq ?_
  refine SC_ret1 rfl rfl ?_
  refine ⟨?_, ?_⟩
  · rw [h2, iget_ws]; by_cases h : w ∈ ws <;> simp [h]
  · exact (Lands.cons (Lands.cons (big_put (t := (k, b, ws))))).trans (close_book (p := p) (T := A ++ (k, b, ws) :: B) (.refl _) rfl rfl)

theorem book_Has {W : World} {F : List HProp} [Abs F] (p : Nat) (S : List (Int × List Int)) (w k : Int) :
    CallsK W Try.prog 46 #[.pointer (some ⟨p, 0, none⟩), .int .i64 w, .int .i64 k] (At bookI p S :: F) (fun v L => v = .bool (decide (w ∈ signers S k)) ∧ Lands L (At bookI p S :: F)) := by
  refine CallsK.op_book (p := p) fun m T hT => ?_
  subst hT
  rcases book_find T k with ⟨h1, h2, _, _⟩ | ⟨A, b, ws, B, rfl, h2, h3, _⟩
  · exact book_Has_no p m T w k h1 h2
  · exact CallsK.lands (Lands.cons (Lands.cons (big_take rfl))) (book_Has_yes p m b A B ws w k h2 h3)

theorem book_Sign_yes {W : World} {F : List HProp} [Abs F] (p : Nat) (m b : Nat) (A B : List (Int × Nat × List Int)) (ws : List Int) (w k : Int) (h1 : mget (outer (A ++ (k, b, ws) :: B)) k = some (.map (some b))) (h2 : addTo (sgn (A ++ (k, b, ws) :: B)) w k = sgn (A ++ (k, b, putW ws w) :: B)) :
    CallsK W Try.prog 23 #[.pointer (some ⟨p, 0, none⟩), .int .i64 w, .int .i64 k] (pt p (.cells [.map (some m)].toArray 99) :: mapP intK m (outer (A ++ (k, b, ws) :: B)) :: mapP intK b (ws.map fun w => (w, Value.int .i64 1)) :: bigP (A ++ B) :: F) (fun v L => v = .tuple #[] ∧ Lands L (At bookI p (addTo (sgn (A ++ (k, b, ws) :: B)) w k) :: F)) := by
  refine CallsK_enter (n := 26) Try.func23 rfl rfl rfl ?_
  refine SC_seq ?_
  refine SC_seq ?_
  refine SC_region ?_
  refine SR_pu (RD_move rfl) rfl ?_
  refine SR_pu (RD_nilCheck rfl) rfl ?_
  first
    | refine SR_pu (RD_fieldAddr0 Try.runUnderlying99 rfl rfl Try.sizeOf97 rfl) rfl ?_
    | refine SR_rd (RD_fieldAddrO 0 Try.runUnderlying99 rfl rfl Try.sizeOf97 rfl (by simp <;> omega)) Has.ro rfl ?_
  refine SR_rd (RD_load Try.isAgg97 rfl) (Has.ce rfl) rfl ?_
  refine SR_pu (RD_move rfl) rfl ?_
  refine SR_rd (RD_lookS (K := intK) (m := outer (A ++ (k, b, ws) :: B)) Try.underlying97 Try.underlying3 Try.zeroValue96 rfl rfl h1) (Has.ma (K := intK)) rfl ?_
  refine SR_pu (RD_eqlM Try.underlying96 rfl rfl) rfl ?_
  refine SR_nil ?_
  refine SN.le (l := [(0, _), (1, _), (2, _), (12, _)]) ?_ (.cons rfl (.cons rfl (.cons rfl (.cons rfl (.nil)))))
  refine SN_seq ?_
  refine SC_cond_false rfl (rfl) ?_
  refine SC_skip ?_
  refine SN_seq ?_
  refine SC_region ?_
  refine SR_pu (RD_move rfl) rfl ?_
  refine SR_pu (RD_nilCheck rfl) rfl ?_
  first
    | refine SR_pu (RD_fieldAddr0 Try.runUnderlying99 rfl rfl Try.sizeOf97 rfl) rfl ?_
    | refine SR_rd (RD_fieldAddrO 0 Try.runUnderlying99 rfl rfl Try.sizeOf97 rfl (by simp <;> omega)) Has.ro rfl ?_
  refine SR_rd (RD_load Try.isAgg97 rfl) (Has.ce rfl) rfl ?_
  refine SR_pu (RD_move rfl) rfl ?_
  refine SR_rd (RD_lookS (K := intK) (m := outer (A ++ (k, b, ws) :: B)) Try.underlying97 Try.underlying3 Try.zeroValue96 rfl rfl h1) (Has.ma (K := intK)) rfl ?_
  refine SR_pu (RD_move rfl) rfl ?_
  refine SR_ox0 (OX_mu (K := intK) Try.underlying96 Try.underlying3 rfl rfl rfl) ?_
  rintro _ _ rfl
  refine SR_nil ?_
  refine SN.le (l := []) ?_ (.nil)
  refine SN_stop0 rfl ?_
  refine ⟨rfl, ?_⟩
  rw [h2, mset_ws]
  have ho : outer (A ++ (k, b, ws) :: B) = outer (A ++ (k, b, putW ws w) :: B) := by simp [outer]
  rw [ho]
  refine Lands.trans (fun m => Den_perm ((List.Perm.swap _ _ _).trans ((List.Perm.swap _ _ _).cons _)) m) ?_
  exact (Lands.cons (Lands.cons (big_put (t := (k, b, putW ws w))))).trans (close_book (p := p) (T := A ++ (k, b, putW ws w) :: B) (.refl _) rfl rfl)

end Go.Proofs.Ytmigjpmadhebfaa
