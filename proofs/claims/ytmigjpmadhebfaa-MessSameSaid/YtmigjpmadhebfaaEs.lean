/- Envelopes are the same: rows of them. -/
import Derived.Test.YtmigjpmadhebfaaTr1
namespace Go.Proofs.Ytmigjpmadhebfaa
open Go Go.Proofs
set_option maxRecDepth 100000
theorem run_eqEnv (s t : EnvD) (w : World) : (Op.equalIn 10000 51 s.val t.val).run Try.prog w = .ok (decide (s = t)) w := by
  have u3 := Try.underlying3
  have a3 := Try.isAgg3
  have z3 := Try.sizeOf3
  have u41 := Try.underlying49
  have a41 := Try.isAgg49
  have z41 := Try.sizeOf49
  have hS : Try.prog.underlying 51 = some (.struct (Try.prog.fieldsOf 51)) := by kernel_rfl
  have hp : Try.prog.stoodInHeld 51 = false := by kernel_rfl
  rw [show (10000 : Nat) = 9999 + 1 from rfl, EnvD.val, EnvD.val, run_equalIn_agg w 9999 51 _ _ hS hp]
  simp only [Program.fieldsOf, Try.underlying51, EnvD.cells]
  go_simp
  obtain ⟨k, m, p, q⟩ := s
  obtain ⟨k', m', p', q'⟩ := t
  by_cases h1 : k = k' <;> by_cases h2 : m = m' <;> by_cases h5 : p = p' <;> by_cases h6 : q = q' <;> simp [h1, h2, h5, h6]
theorem RD_eqlEnv {P : Program} {l : Env} {ty : TypeId} {x y : Operand} {yt : TypeId} (s t : EnvD) (hP : P = Try.prog) (hx : ev l x = some s.val) (hy : ev l y = some t.val) : RD P l (.binOp .eql 51 x y yt) ty RU (.bool (decide (s = t))) := fun ρ hρ w _ _ _ _ _ => by
  subst hP
  have hg : ∀ w, (eqGuard .eql 51 x y s.val t.val).run Try.prog w = .ok () w := fun w => run_eqGuard_agg w .eql 51 x y _ _ (by kernel_rfl)
  have he : ∀ w, (binOp .eql 51 s.val t.val).run Try.prog w = .ok (.bool (decide (s = t))) w := fun w => by
    show (binOp .eql 51 (.agg s.cells.toArray) (.agg t.cells.toArray)).run Try.prog w = _
    rw [run_eql_struct]
    have := run_eqEnv s t w
    unfold EnvD.val at this
    rw [this]; rfl
  simp [execOp, hρ x _ hx, hρ y _ hy, hg, he]
theorem RD_neqEnv {P : Program} {l : Env} {ty : TypeId} {x y : Operand} {yt : TypeId} (s t : EnvD) (hP : P = Try.prog) (hx : ev l x = some s.val) (hy : ev l y = some t.val) : RD P l (.binOp .neq 51 x y yt) ty RU (.bool (!decide (s = t))) := fun ρ hρ w _ _ _ _ _ => by
  subst hP
  have hg : ∀ w, (eqGuard .neq 51 x y s.val t.val).run Try.prog w = .ok () w := fun w => run_eqGuard_agg w .neq 51 x y _ _ (by kernel_rfl)
  have he : ∀ w, (binOp .neq 51 s.val t.val).run Try.prog w = .ok (.bool (!decide (s = t))) w := fun w => by
    show (binOp .neq 51 (.agg s.cells.toArray) (.agg t.cells.toArray)).run Try.prog w = _
    rw [run_neq_struct]
    have := run_eqEnv s t w
    unfold EnvD.val at this
    rw [this]; rfl
  simp [execOp, hρ x _ hx, hρ y _ hy, hg, he]

theorem ref_Same14 {W : World} {F : List HProp} [Abs F] (a : Option Addr) (n c : Nat) (xs : List EnvD) {cs : List Value} [HasRow F a cs] (hxs : cs = xs.flatMap EnvD.cells) (kxs : xs.length = n) (b : Option Addr) (m d : Nat) (ys : List EnvD) {ds : List Value} [HasRow F b ds] (hys : ds = ys.flatMap EnvD.cells) (kys : ys.length = m) (hb : n ≤ 1000000000) :
    CallsK W Try.prog 89 #[.slice a n c, .slice b m d] (F) (fun v L => v = .bool (decide (xs = ys)) ∧ Lands L F) := by
  refine CallsK_enter (n := 26) Try.func89 rfl rfl rfl ?_
  subst hxs
  subst hys
  refine SC_seq ?_
  refine SC_region ?_
  refine SR_pu (RD_assign rfl) rfl ?_
  refine SR_nil ?_
  refine SN.le (l := [(0, _), (1, _)]) ?_ (.cons rfl (.cons rfl (.nil)))
  refine SN_seq ?_
  refine SC_seq ?_
  refine SC_seq ?_
  refine SC_region ?_
  refine SR_pu (RD_move rfl) rfl ?_
  refine SR_pu (RD_len Try.runUnderlying56 rfl) rfl ?_
  refine SR_pu (RD_move rfl) rfl ?_
  refine SR_pu (RD_len Try.runUnderlying56 rfl) rfl ?_
  refine SR_pu (RD_neq rfl rfl) rfl ?_
  refine SR_nil ?_
  refine SN.le (l := [(0, _), (1, _), (10, _)]) ?_ (.cons rfl (.cons rfl (.cons rfl (.nil))))
  refine SN_seq ?_
  refine SC_cond rfl (fun hc10 => ?_) (fun hc10 => ?_)
  · refine SC_seq ?_
    refine SC_region ?_
    refine SR_pu (RD_assign rfl) rfl ?_
    refine SR_nil ?_
    refine SN.le (l := [(4, _)]) ?_ (.cons rfl (.nil))
    refine SN_seq ?_
    refine SC_ret1 rfl rfl ?_
    have hne : xs ≠ ys := fun h => by subst h; simp at hc10; omega
    rw [decide_eq_false hne]
    exact ⟨rfl, .fin⟩
  · refine SC_skip ?_
    refine SN_seq ?_
    refine SC_seq ?_
    refine SC_seq ?_
    refine SC_region ?_
    refine SR_pu (RD_assign rfl) rfl ?_
    refine SR_nil ?_
    refine SN.le (l := [(0, _), (1, _), (5, _)]) ?_ (.cons rfl (.cons rfl (.cons rfl (.nil))))
    refine SN_seq ?_
    refine SC_block ?_
    have hnm : n = m := by simp at hc10; omega
    subst hnm
    refine SC_ind (X := Nat) (fun i => i ≤ n ∧ ∀ j, j < i → xs[j]? = ys[j]?) (fun i => n - i) (fun i => [(0, .slice a n c), (1, .slice b n d), (5, .int .i64 (i : Nat))]) (fun i => F) (0) (⟨by omega, fun j hj => by omega⟩) (.cons rfl (.cons rfl (.cons rfl (.nil)))) (.fin) ?_
    intro i hi ih
    obtain ⟨hi1, hi2⟩ := hi
    refine SC_seq ?_
    refine SC_seq ?_
    refine SC_region ?_
    refine SR_pu (RD_move rfl) rfl ?_
    refine SR_pu (RD_move rfl) rfl ?_
    refine SR_pu (RD_len Try.runUnderlying56 rfl) rfl ?_
    refine SR_pu (RD_lss rfl rfl) rfl ?_
    refine SR_nil ?_
    refine SN.le (l := [(0, _), (1, _), (5, _), (14, _)]) ?_ (.cons rfl (.cons rfl (.cons rfl (.cons rfl (.nil)))))
    refine SN_seq ?_
    refine SC_cond rfl (fun hc14 => ?_) (fun hc14 => ?_)
    · have hin : i < n := by simp at hc14; omega
      obtain ⟨x, hx⟩ : ∃ x, xs[i]? = some x := ⟨_, List.getElem?_eq_getElem (by omega)⟩
      obtain ⟨y, hy⟩ : ∃ y, ys[i]? = some y := ⟨_, List.getElem?_eq_getElem (by omega)⟩
      refine SC_skip ?_
      refine SN_seq ?_
      refine SC_seq ?_
      refine SC_block ?_
      refine SC_seq ?_
      refine SC_drawn (.cons 0 true (.cons 1 true (.cons 2 true (.cons 3 true (.cons 4 true (.cons 5 true (.cons 6 true (.cons 7 true (.cons 8 true (.nil)))))))))) (by kernel_rfl) (by kernel_rfl) ?_
      refine SQ_pu rfl (RD_move rfl) rfl ?_
      refine SQ_pu rfl (RD_move rfl) rfl ?_
      refine SQ_rd rfl (RD_ixO (i := (i : Nat)) (cs := xs.flatMap EnvD.cells) Try.runUnderlying56 Try.sizeOf51 rfl rfl (by rw [env_len, kxs]) (by omega) (by omega)) Has.ro rfl ?_
      refine SQ_rd rfl (RD_loadAO (vs := EnvD.cells x) (cs := xs.flatMap EnvD.cells) Try.isAgg51 Try.sizeOf51 rfl rfl (by decide) (fun o v h => by have ho : o < 4 := (List.getElem?_eq_some_iff.1 h).1; rw [show ((i : Nat) : Int).toNat * (3 + 1) + o = i * 4 + o by omega, env_get hx o ho]; exact h)) Has.ro rfl ?_
      refine SQ_pu rfl (RD_move rfl) rfl ?_
      refine SQ_pu rfl (RD_move rfl) rfl ?_
      refine SQ_rd rfl (RD_ixO (i := (i : Nat)) (cs := ys.flatMap EnvD.cells) Try.runUnderlying56 Try.sizeOf51 rfl rfl (by rw [env_len, kys]) (by omega) (by omega)) Has.ro rfl ?_
      refine SQ_rd rfl (RD_loadAO (vs := EnvD.cells y) (cs := ys.flatMap EnvD.cells) Try.isAgg51 Try.sizeOf51 rfl rfl (by decide) (fun o v h => by have ho : o < 4 := (List.getElem?_eq_some_iff.1 h).1; rw [show ((i : Nat) : Int).toNat * (3 + 1) + o = i * 4 + o by omega, env_get hy o ho]; exact h)) Has.ro rfl ?_
      refine SQ_pu rfl (RD_neqEnv x y rfl rfl rfl) rfl ?_
      refine SQ_nil ?_
      refine SN.le (l := [(0, _), (1, _), (5, _), (25, _)]) ?_ (.cons rfl (.cons rfl (.cons rfl (.cons rfl (.nil)))))
      refine SN_seq ?_
      refine SC_cond rfl (fun hc25 => ?_) (fun hc25 => ?_)
      · have hne : x ≠ y := by simpa using hc25
        refine SC_seq ?_
        refine SC_region ?_
        refine SR_pu (RD_assign rfl) rfl ?_
        refine SR_nil ?_
        refine SN.le (l := [(4, _)]) ?_ (.cons rfl (.nil))
        refine SN_seq ?_
        refine SC_ret1 rfl rfl ?_
        have hnq : xs ≠ ys := fun h => by subst h; rw [hx] at hy; cases hy; exact hne rfl
        rw [decide_eq_false hnq]
        exact ⟨rfl, .fin⟩
      · have hxy : x = y := by simpa using hc25
        refine SC_skip ?_
        refine SN_block ?_
        refine SN_seq ?_
        refine SC_region ?_
        refine SR_pu (RD_move rfl) rfl ?_
        refine SR_pu (RD_addi rfl rfl (by omega) (by omega)) rfl ?_
        refine SR_pu (RD_assign rfl) rfl ?_
        refine SR_nil ?_
        refine SN.le (l := [(0, _), (1, _), (5, _)]) ?_ (.cons rfl (.cons rfl (.cons rfl (.nil))))
        refine SC_again (ih (i + 1) (⟨by omega, fun j hj => by
          rcases Nat.lt_succ_iff_lt_or_eq.1 hj with h | h
          · exact hi2 j h
          · subst h; rw [hx, hy, hxy]⟩) (by omega)) (.fin) (.cons rfl (.cons rfl (.cons' rfl (ie (by omega)) (.nil))))
    · have hin : i = n := by simp at hc14; omega
      have heq : xs = ys := List.ext_getElem? fun j => by
        by_cases h : j < n
        · exact hi2 j (by omega)
        · rw [List.getElem?_eq_none (by omega), List.getElem?_eq_none (by omega)]
      refine SC_exit rfl ?_
      refine SN_seq ?_
      refine SC_seq ?_
      refine SC_region ?_
      refine SR_pu (RD_assign rfl) rfl ?_
      refine SR_nil ?_
      refine SN.le (l := [(4, _)]) ?_ (.cons rfl (.nil))
      refine SN_seq ?_
      refine SC_ret1 rfl rfl ?_
      rw [decide_eq_true heq]
      exact ⟨rfl, .fin⟩

end Go.Proofs.Ytmigjpmadhebfaa
