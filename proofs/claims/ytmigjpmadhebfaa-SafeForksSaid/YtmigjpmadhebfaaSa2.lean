/- What one may vote for: votes; what the document fixes. -/
import Derived.Test.YtmigjpmadhebfaaSa
namespace Go.Proofs.Ytmigjpmadhebfaa
open Go Go.Proofs
set_option maxRecDepth 100000
/-- May one vote for it? What one knows then. -/
def SS.vote (s : SS) (st : TS) (d : Int) : Bool × SS :=
  match mget st.T d with
  | none => (false, s)
  | some b => if b.view ≤ s.last then (false, s) else if b.jv < viewOf (mget st.T s.lock) ∧ st.way s.lock d = none then (false, s) else (true, ⟨s.t, s.hv, s.hb, s.lock, b.view⟩)

theorem safe_Vote_no {W : World} {F : List HProp} [Abs F] (p : Nat) (s : SS) (st : TS) (d : Int) (h : mget st.T d = none) :
    CallsK W Try.prog 36 #[.pointer (some ⟨p, 0, none⟩), .int .i64 d] (At safeI p s :: At treeI s.t st :: F) (fun u L => u = .bool false ∧ Lands L (At safeI p s :: At treeI s.t st :: F)) := by
  refine CallsK_enter (n := 64) Try.func36 rfl rfl rfl ?_
  refine SC_seq ?_
  refine SC_region ?_
  refine SR_pu (RD_assign rfl) rfl ?_
  refine SR_nil ?_
  refine SN.le (l := [(0, _), (1, _)]) ?_ (.cons rfl (.cons rfl (.nil)))
  refine SN_seq ?_
  refine SC_seq ?_
  refine SC.op_safe (p := p) fun a c => ?_
  refine SC_region ?_
  refine SR_pu (RD_move rfl) rfl ?_
  first
    | refine SR_pu (RD_nilCheck rfl) rfl ?_
    | refine SR_pu (RD_nilCheckF rfl) rfl ?_
  first
    | refine SR_pu (RD_fieldAddr0 Try.runUnderlying114 rfl rfl Try.sizeOf61 rfl) rfl ?_
    | refine SR_rd (RD_fieldAddrO 0 Try.runUnderlying114 rfl rfl Try.sizeOf61 rfl (by simp <;> omega)) Has.ro rfl ?_
  refine SR_rd (RD_load Try.isAgg61 rfl) (Has.ce rfl) rfl ?_
  refine SR_pu (RD_move rfl) rfl ?_
  refine SR_call Try.call65 (.cons rfl (.cons rfl (.nil))) (CallsK.at (tree_Block s.t st d)) (lts rfl) ?_
  rintro _ L1 ⟨b', rfl, hp', hf', hL1⟩
  rw [h]
  refine SR.lands hL1 ?_
  refine SR_pu (RD_move rfl) rfl ?_
  refine SR_pu (RD_extract rfl rfl) rfl ?_
  refine SR_pu (RD_extract rfl rfl) rfl ?_
  refine SR_ox (OX_alloc Try.zeroValue58 rfl) rfl ?_
  rintro _ _ ⟨b5, rfl, rfl⟩
  refine SR_ox0 (OX_stA (vs := b'.cells) Try.sizeOf58 rfl rfl rfl rfl) ?_
  rintro _ _ rfl
  refine SR_pu (RD_assign rfl) rfl ?_
  refine SR_nil ?_
  refine SN.le (l := [(0, _), (1, _), (5, _), (6, _)]) ?_ (.cons rfl (.cons rfl (.cons rfl (.cons rfl (.nil)))))
  refine SN_seq ?_
  refine SC_seq ?_
  refine SC_seq ?_
  refine SC_drawn (.cons 0 true (.cons 1 true (.cons 2 true (.cons 3 true (.cons 4 true (.cons 5 true (.cons 6 true (.cons 7 true (.cons 8 true (.cons 9 true (.cons 10 true (.nil)))))))))))) (by kernel_rfl) (by kernel_rfl) ?_
  refine SQ_pu rfl (RD_move rfl) rfl ?_
  refine SQ_pu rfl (RD_not rfl) rfl ?_
  refine SQ_pu rfl (RD_move rfl) rfl ?_
  refine SQ_no rfl rfl rfl (rfl) (lts rfl) ?_
  refine SQ_no rfl rfl rfl (rfl) (lts rfl) ?_
  refine SQ_no rfl rfl rfl (rfl) (lts rfl) ?_
  refine SQ_no rfl rfl rfl (rfl) (lts rfl) ?_
  refine SQ_no rfl rfl rfl (rfl) (lts rfl) ?_
  refine SQ_no rfl rfl rfl (rfl) (lts rfl) ?_
  refine SQ_no rfl rfl rfl (rfl) (lts rfl) ?_
  refine SQ_pu rfl (RD_pick_t rfl (rfl) rfl) rfl ?_
  refine SQ_nil ?_
  refine SN.le (l := [(0, _), (1, _), (5, _), (28, _)]) ?_ (.cons rfl (.cons rfl (.cons rfl (.cons rfl (.nil)))))
  refine SN_seq ?_
  refine SC_cond_true rfl (rfl) ?_
  refine SC_seq ?_
  refine SC_region ?_
  refine SR_pu (RD_assign rfl) rfl ?_
  refine SR_nil ?_
  refine SN.le (l := [(4, _)]) ?_ (.cons rfl (.nil))
  refine SN_seq ?_
  refine SC_ret1 rfl rfl ?_
  exact ⟨rfl, ((close_safe (p := p) (s := s) rfl).trans .fin)⟩

theorem safe_Vote_yes {W : World} {F : List HProp} [Abs F] (p : Nat) (s : SS) (st : TS) (hst : st.Ok) (hlk : ∃ c, mget st.T s.lock = some c) (d : Int) (b : Blk) (h : mget st.T d = some b) (hv : b.view.toNat ≤ 1000000) :
    CallsK W Try.prog 36 #[.pointer (some ⟨p, 0, none⟩), .int .i64 d] (At safeI p s :: At treeI s.t st :: F) (fun u L => u = .bool (s.vote st d).1 ∧ Lands L (At safeI p (s.vote st d).2 :: At treeI s.t st :: F)) := by
  refine CallsK_enter (n := 64) Try.func36 rfl rfl rfl ?_
  refine SC_seq ?_
  refine SC_region ?_
  refine SR_pu (RD_assign rfl) rfl ?_
  refine SR_nil ?_
  refine SN.le (l := [(0, _), (1, _)]) ?_ (.cons rfl (.cons rfl (.nil)))
  refine SN_seq ?_
  refine SC_seq ?_
  refine SC.op_safe (p := p) fun a c => ?_
  refine SC_region ?_
  refine SR_pu (RD_move rfl) rfl ?_
  first
    | refine SR_pu (RD_nilCheck rfl) rfl ?_
    | refine SR_pu (RD_nilCheckF rfl) rfl ?_
  first
    | refine SR_pu (RD_fieldAddr0 Try.runUnderlying114 rfl rfl Try.sizeOf61 rfl) rfl ?_
    | refine SR_rd (RD_fieldAddrO 0 Try.runUnderlying114 rfl rfl Try.sizeOf61 rfl (by simp <;> omega)) Has.ro rfl ?_
  refine SR_rd (RD_load Try.isAgg61 rfl) (Has.ce rfl) rfl ?_
  refine SR_pu (RD_move rfl) rfl ?_
  refine SR_call Try.call65 (.cons rfl (.cons rfl (.nil))) (CallsK.at (tree_Block s.t st d)) (lts rfl) ?_
  rintro _ L1 ⟨b', rfl, hp', hf', hL1⟩
  rw [h] at hp' ⊢
  have hp2 : b'.pure = b := hp'
  have hbv : b'.view = b.view := congrArg Blk.view hp2
  have hbj : b'.jv = b.jv := congrArg Blk.jv hp2
  refine SR.lands hL1 ?_
  refine SR_pu (RD_move rfl) rfl ?_
  refine SR_pu (RD_extract rfl rfl) rfl ?_
  refine SR_pu (RD_extract rfl rfl) rfl ?_
  refine SR_ox (OX_alloc Try.zeroValue58 rfl) rfl ?_
  rintro _ _ ⟨b5, rfl, rfl⟩
  refine SR_ox0 (OX_stA (vs := b'.cells) Try.sizeOf58 rfl rfl rfl rfl) ?_
  rintro _ _ rfl
  refine SR_pu (RD_assign rfl) rfl ?_
  refine SR_nil ?_
  refine SN.le (l := [(0, _), (1, _), (5, _), (6, _)]) ?_ (.cons rfl (.cons rfl (.cons rfl (.cons rfl (.nil)))))
  refine SN_seq ?_
  refine SC_seq ?_
  refine SC_seq ?_
  refine SC_drawn (.cons 0 true (.cons 1 true (.cons 2 true (.cons 3 true (.cons 4 true (.cons 5 true (.cons 6 true (.cons 7 true (.cons 8 true (.cons 9 true (.cons 10 true (.nil)))))))))))) (by kernel_rfl) (by kernel_rfl) ?_
  refine SQ_pu rfl (RD_move rfl) rfl ?_
  refine SQ_pu rfl (RD_not rfl) rfl ?_
  refine SQ_pu rfl (RD_move rfl) rfl ?_
  first
    | refine SQ_pyes rfl rfl rfl (rfl) (RD_fieldAddr0 Try.runUnderlying58 rfl rfl Try.sizeOf3 rfl) rfl ?_
    | refine SQ_yes rfl rfl rfl (rfl) (RD_fieldAddrO 0 Try.runUnderlying58 rfl rfl Try.sizeOf3 rfl (by simp <;> omega)) Has.ro rfl ?_
  refine SQ_yes rfl rfl rfl (rfl) (RD_load (v := .int .i64 b.view) Try.isAgg3 rfl) (Has.ce (by rw [← hbv]; rfl)) rfl ?_
  refine SQ_pyes rfl rfl rfl (rfl) (RD_move rfl) rfl ?_
  first
    | refine SQ_pyes rfl rfl rfl (rfl) (RD_nilCheck rfl) rfl ?_
    | refine SQ_pyes rfl rfl rfl (rfl) (RD_nilCheckF rfl) rfl ?_
  first
    | refine SQ_pyes rfl rfl rfl (rfl) (RD_fieldAddr 5 Try.runUnderlying114 rfl rfl Try.sizeOf3 rfl) rfl ?_
    | refine SQ_yes rfl rfl rfl (rfl) (RD_fieldAddrO 5 Try.runUnderlying114 rfl rfl Try.sizeOf3 rfl (by simp <;> omega)) Has.ro rfl ?_
  refine SQ_yes rfl rfl rfl (rfl) (RD_load Try.isAgg3 rfl) (Has.ce rfl) rfl ?_
  refine SQ_pyes rfl rfl rfl (rfl) (RD_leq rfl rfl) rfl ?_
  refine SQ_pu rfl (RD_pick_f rfl (rfl) rfl) rfl ?_
  refine SQ_nil ?_
  refine SN.le (l := [(0, _), (1, _), (5, _), (28, _)]) ?_ (.cons rfl (.cons rfl (.cons rfl (.cons rfl (.nil)))))
  refine SN_seq ?_
  refine SC_cond rfl (fun hc28 => ?_) (fun hc28 => ?_)
  · have hle : b.view ≤ s.last := by simpa using hc28
    refine SC_seq ?_
    refine SC_region ?_
    refine SR_pu (RD_assign rfl) rfl ?_
    refine SR_nil ?_
    refine SN.le (l := [(4, _)]) ?_ (.cons rfl (.nil))
    refine SN_seq ?_
    refine SC_ret1 rfl rfl ?_
    unfold SS.vote
    rw [h]
    dsimp only
    rw [if_pos hle]
    exact ⟨rfl, ((close_safe (p := p) (s := s) rfl).trans .fin)⟩
  · have hle : ¬ b.view ≤ s.last := by simpa using hc28
    refine SC_skip ?_
    refine SN_seq ?_
    refine SC_seq ?_
    refine SC_seq ?_
    refine SC_drawn (.cons 0 true (.cons 1 true (.cons 2 true (.cons 3 true (.cons 4 true (.cons 5 true (.cons 6 true (.cons 7 true (.cons 8 true (.cons 9 false (.cons 10 true (.cons 11 true (.cons 12 true (.cons 13 true (.cons 14 true (.nil)))))))))))))))) (by kernel_rfl) (by kernel_rfl) ?_
    refine SQ_pu rfl (RD_move rfl) rfl ?_
    first
      | refine SQ_pu rfl (RD_nilCheck rfl) rfl ?_
      | refine SQ_pu rfl (RD_nilCheckF rfl) rfl ?_
    first
      | refine SQ_pu rfl (RD_fieldAddr0 Try.runUnderlying114 rfl rfl Try.sizeOf61 rfl) rfl ?_
      | refine SQ_rd rfl (RD_fieldAddrO 0 Try.runUnderlying114 rfl rfl Try.sizeOf61 rfl (by simp <;> omega)) Has.ro rfl ?_
    refine SQ_rd rfl (RD_load Try.isAgg61 rfl) (Has.ce rfl) rfl ?_
    refine SQ_pu rfl (RD_move rfl) rfl ?_
    first
      | refine SQ_pu rfl (RD_nilCheck rfl) rfl ?_
      | refine SQ_pu rfl (RD_nilCheckF rfl) rfl ?_
    first
      | refine SQ_pu rfl (RD_fieldAddr 4 Try.runUnderlying114 rfl rfl Try.sizeOf3 rfl) rfl ?_
      | refine SQ_rd rfl (RD_fieldAddrO 4 Try.runUnderlying114 rfl rfl Try.sizeOf3 rfl (by simp <;> omega)) Has.ro rfl ?_
    refine SQ_rd rfl (RD_load Try.isAgg3 rfl) (Has.ce rfl) rfl ?_
    refine SQ_pu rfl (RD_move rfl) rfl ?_
    refine SQ_call rfl Try.call37 (.cons rfl (.cons rfl (.cons rfl (.nil)))) (CallsK.at (tree_Path_yes s.t st hst s.lock d hlk ⟨b, h⟩ (by rw [h]; exact hv))) (lts rfl) ?_
    rintro _ L2 ⟨pa, pc, rfl, hL2⟩
    refine ⟨.lands hL2 (.w rfl (.w rfl (.nil))), ?_⟩
    refine SQ.lands hL2 ?_
    refine SQ_pu rfl (RD_move rfl) rfl ?_
    refine SQ_pu rfl (RD_extract rfl rfl) rfl ?_
    refine SQ_pu rfl (RD_extract rfl rfl) rfl ?_
    refine SQ_pu rfl (RD_assign rfl) rfl ?_
    refine SQ_pu rfl (RD_assign rfl) rfl ?_
    refine SQ_nil ?_
    refine SN.le (l := [(0, _), (5, _), (8, _)]) ?_ (.cons rfl (.cons rfl (.cons rfl (.nil))))
    refine SN_seq ?_
    refine SC_seq ?_
    refine SC_drawn (.cons 0 true (.cons 1 true (.cons 2 true (.cons 3 true (.cons 4 true (.cons 5 true (.cons 6 true (.cons 7 true (.cons 8 true (.cons 9 true (.cons 10 true (.cons 11 false (.cons 12 true (.cons 13 true (.cons 14 true (.cons 15 true (.cons 16 true (.nil)))))))))))))))))) (by kernel_rfl) (by kernel_rfl) ?_
    first
      | refine SQ_pu rfl (RD_fieldAddr 2 Try.runUnderlying58 rfl rfl Try.sizeOf26 rfl) rfl ?_
      | refine SQ_rd rfl (RD_fieldAddrO 2 Try.runUnderlying58 rfl rfl Try.sizeOf26 rfl (by simp <;> omega)) Has.ro rfl ?_
    first
      | refine SQ_pu rfl (RD_fieldAddr0 Try.runUnderlying26 rfl rfl Try.sizeOf3 rfl) rfl ?_
      | refine SQ_rd rfl (RD_fieldAddrO 0 Try.runUnderlying26 rfl rfl Try.sizeOf3 rfl (by simp <;> omega)) Has.ro rfl ?_
    refine SQ_rd rfl (RD_load (v := .int .i64 b.jv) Try.isAgg3 rfl) (Has.ce (by rw [← hbj]; rfl)) rfl ?_
    refine SQ_pu rfl (RD_move rfl) rfl ?_
    first
      | refine SQ_pu rfl (RD_nilCheck rfl) rfl ?_
      | refine SQ_pu rfl (RD_nilCheckF rfl) rfl ?_
    first
      | refine SQ_pu rfl (RD_fieldAddr0 Try.runUnderlying114 rfl rfl Try.sizeOf61 rfl) rfl ?_
      | refine SQ_rd rfl (RD_fieldAddrO 0 Try.runUnderlying114 rfl rfl Try.sizeOf61 rfl (by simp <;> omega)) Has.ro rfl ?_
    refine SQ_rd rfl (RD_load Try.isAgg61 rfl) (Has.ce rfl) rfl ?_
    refine SQ_pu rfl (RD_move rfl) rfl ?_
    first
      | refine SQ_pu rfl (RD_nilCheck rfl) rfl ?_
      | refine SQ_pu rfl (RD_nilCheckF rfl) rfl ?_
    first
      | refine SQ_pu rfl (RD_fieldAddr 4 Try.runUnderlying114 rfl rfl Try.sizeOf3 rfl) rfl ?_
      | refine SQ_rd rfl (RD_fieldAddrO 4 Try.runUnderlying114 rfl rfl Try.sizeOf3 rfl (by simp <;> omega)) Has.ro rfl ?_
    refine SQ_rd rfl (RD_load Try.isAgg3 rfl) (Has.ce rfl) rfl ?_
    refine SQ_call rfl Try.call31 (.cons rfl (.cons rfl (.nil))) (CallsK.at (tree_View s.t st s.lock)) (lts rfl) ?_
    rintro _ L3 ⟨rfl, hL3⟩
    refine ⟨.lands hL3 (.w rfl (.w rfl (.h (Has.ce (by rw [← hbj]; rfl)) (.nil)))), ?_⟩
    refine SQ.lands hL3 ?_
    refine SQ_pu rfl (RD_lss rfl rfl) rfl ?_
    refine SQ_pu rfl (RD_move rfl) rfl ?_
    refine SQ_guard (i := 14) rfl rfl rfl (fun hg5_13 => ?_) (fun hg5_13 => ?_)
    · refine SQ_pyes rfl rfl rfl (hg5_13) (RD_move rfl) rfl ?_
      refine SQ_pyes rfl rfl rfl (hg5_13) (RD_not rfl) rfl ?_
      refine SQ_pu rfl (RD_pick_t rfl (hg5_13) rfl) rfl ?_
      refine SQ_nil ?_
      refine SN.le (l := [(0, _), (5, _), (58, _)]) ?_ (.cons rfl (.cons rfl (.cons rfl (.nil))))
      refine SN_seq ?_
      refine SC_cond rfl (fun hc58 => ?_) (fun hc58 => ?_)
      · have hj : b.jv < viewOf (mget st.T s.lock) ∧ st.way s.lock d = none := ⟨of_decide_eq_true hg5_13, by simpa using hc58⟩
        refine SC_seq ?_
        refine SC_region ?_
        refine SR_pu (RD_assign rfl) rfl ?_
        refine SR_nil ?_
        refine SN.le (l := [(4, _)]) ?_ (.cons rfl (.nil))
        refine SN_seq ?_
        refine SC_ret1 rfl rfl ?_
        unfold SS.vote
        rw [h]
        dsimp only
        rw [if_neg hle, if_pos hj]
        exact ⟨rfl, ((close_safe (p := p) (s := s) rfl).trans .fin)⟩
      · have hnj : ¬ (b.jv < viewOf (mget st.T s.lock) ∧ st.way s.lock d = none) := fun h => by rw [h.2] at hc58; cases hc58
        refine SC_skip ?_
        refine SN_seq ?_
        refine SC_seq ?_
        refine SC_region ?_
        refine SR_pu (RD_move rfl) rfl ?_
        first
          | refine SR_pu (RD_fieldAddr0 Try.runUnderlying58 rfl rfl Try.sizeOf3 rfl) rfl ?_
          | refine SR_rd (RD_fieldAddrO 0 Try.runUnderlying58 rfl rfl Try.sizeOf3 rfl (by simp <;> omega)) Has.ro rfl ?_
        refine SR_rd (RD_load (v := .int .i64 b.view) Try.isAgg3 rfl) (Has.ce (by rw [← hbv]; rfl)) rfl ?_
        first
          | refine SR_pu (RD_nilCheck rfl) rfl ?_
          | refine SR_pu (RD_nilCheckF rfl) rfl ?_
        first
          | refine SR_pu (RD_fieldAddr 5 Try.runUnderlying114 rfl rfl Try.sizeOf3 rfl) rfl ?_
          | refine SR_rd (RD_fieldAddrO 5 Try.runUnderlying114 rfl rfl Try.sizeOf3 rfl (by simp <;> omega)) Has.ro rfl ?_
        refine SR_ox0 (OX_st Try.sizeOf3 rfl rfl) ?_
        rintro _ _ rfl
        refine SR_nil ?_
        refine SN.le (l := []) ?_ (.nil)
        refine SN_seq ?_
        refine SC_seq ?_
        refine SC_region ?_
        refine SR_pu (RD_assign rfl) rfl ?_
        refine SR_nil ?_
        refine SN.le (l := [(4, _)]) ?_ (.cons rfl (.nil))
        refine SN_seq ?_
        refine SC_ret1 rfl rfl ?_
        unfold SS.vote
        rw [h]
        dsimp only
        rw [if_neg hle, if_neg hnj]
        exact ⟨rfl, (close_safe (p := p) (s := ⟨s.t, s.hv, s.hb, s.lock, b.view⟩) rfl).trans .fin⟩
    · refine SQ_no rfl rfl rfl (hg5_13) (lts rfl) ?_
      refine SQ_no rfl rfl rfl (hg5_13) (lts rfl) ?_
      refine SQ_pu rfl (RD_pick_f rfl (hg5_13) rfl) rfl ?_
      refine SQ_nil ?_
      refine SN.le (l := [(0, _), (5, _), (58, _)]) ?_ (.cons rfl (.cons rfl (.cons rfl (.nil))))
      refine SN_seq ?_
      have hnj : ¬ (b.jv < viewOf (mget st.T s.lock) ∧ st.way s.lock d = none) := fun h => by have h2 := of_decide_eq_false hg5_13; exact h2 h.1
      refine SC_cond_false rfl (rfl) ?_
      refine SC_skip ?_
      refine SN_seq ?_
      refine SC_seq ?_
      refine SC_region ?_
      refine SR_pu (RD_move rfl) rfl ?_
      first
        | refine SR_pu (RD_fieldAddr0 Try.runUnderlying58 rfl rfl Try.sizeOf3 rfl) rfl ?_
        | refine SR_rd (RD_fieldAddrO 0 Try.runUnderlying58 rfl rfl Try.sizeOf3 rfl (by simp <;> omega)) Has.ro rfl ?_
      refine SR_rd (RD_load (v := .int .i64 b.view) Try.isAgg3 rfl) (Has.ce (by rw [← hbv]; rfl)) rfl ?_
      first
        | refine SR_pu (RD_nilCheck rfl) rfl ?_
        | refine SR_pu (RD_nilCheckF rfl) rfl ?_
      first
        | refine SR_pu (RD_fieldAddr 5 Try.runUnderlying114 rfl rfl Try.sizeOf3 rfl) rfl ?_
        | refine SR_rd (RD_fieldAddrO 5 Try.runUnderlying114 rfl rfl Try.sizeOf3 rfl (by simp <;> omega)) Has.ro rfl ?_
      refine SR_ox0 (OX_st Try.sizeOf3 rfl rfl) ?_
      rintro _ _ rfl
      refine SR_nil ?_
      refine SN.le (l := []) ?_ (.nil)
      refine SN_seq ?_
      refine SC_seq ?_
      refine SC_region ?_
      refine SR_pu (RD_assign rfl) rfl ?_
      refine SR_nil ?_
      refine SN.le (l := [(4, _)]) ?_ (.cons rfl (.nil))
      refine SN_seq ?_
      refine SC_ret1 rfl rfl ?_
      unfold SS.vote
      rw [h]
      dsimp only
      rw [if_neg hle, if_neg hnj]
      exact ⟨rfl, (close_safe (p := p) (s := ⟨s.t, s.hv, s.hb, s.lock, b.view⟩) rfl).trans .fin⟩

def sB1 : Blk := ⟨1, 1, 0, 1, [], []⟩
def sB2 : Blk := ⟨2, 0, 1, 2, [], []⟩
def sB3 : Blk := ⟨3, 0, 2, 3, [], []⟩
def sL1 : List (List UInt8) := [rootB, blkB [] sB1]
def sL2 : List (List UInt8) := [rootB, blkB [] sB1, blkB [] sB2]
def sL3 : List (List UInt8) := [rootB, blkB [] sB1, blkB [] sB2, blkB [] sB3]
def sS1 (w : Nat) : TS := ⟨w, 1, [(1, zBlk), (2, sB1)]⟩
def sS2 (w : Nat) : TS := ⟨w, 1, [(1, zBlk), (2, sB1), (3, sB2)]⟩
def sS3 (w : Nat) : TS := ⟨w, 1, [(1, zBlk), (2, sB1), (3, sB2), (4, sB3)]⟩
theorem sD1 : blkD [rootB] sB1 = 2 := by decide +kernel
theorem sD2 : blkD sL1 sB2 = 3 := by decide +kernel
theorem sD3 : blkD sL2 sB3 = 4 := by decide +kernel
theorem sL1' : blkL [rootB] sB1 = sL1 := by decide +kernel
theorem sL2' : blkL sL1 sB2 = sL2 := by decide +kernel
theorem sL3' : blkL sL2 sB3 = sL3 := by decide +kernel

theorem sA1 (w : Nat) : (tS0 w).add [rootB] sB1 = ((2, 0), sS1 w, sL1) ∧ TL (sS1 w) sL1 ∧ (sS1 w).Ok := by
  have h : TL (tS0 w) [rootB] := by have h := TL.start (l := [rootB]) w (by simp); rw [show dnum [rootB] rootB = 1 by simp [dnum]] at h; exact h
  have ho : (tS0 w).Ok := TS.Ok.new w 1
  have h2 := TL.add (s := tS0 w) h ho (b := sB1) (q := zBlk) (good_nil (by unfold I64; omega) (by unfold I64; omega) (by unfold I64; omega) (by unfold I64; omega)) (by simp) (by simp [tS0]) (by simp [tS0, mget, sB1]) (by simp [sB1, zBlk]) (by simp [sB1]) (by rw [sD1]; simp [tS0, mget])
  rw [sD1, sL1'] at h2
  exact h2

theorem sA2 (w : Nat) : (sS1 w).add sL1 sB2 = ((3, 0), sS2 w, sL2) ∧ TL (sS2 w) sL2 ∧ (sS2 w).Ok := by
  obtain ⟨_, h, ho⟩ := sA1 w
  have h2 := TL.add (s := sS1 w) h ho (b := sB2) (q := sB1) (good_nil (by unfold I64; omega) (by unfold I64; omega) (by unfold I64; omega) (by unfold I64; omega)) (by simp [sL1]) (by simp [sS1]) (by simp [sS1, mget, sB2]) (by simp [sB2, sB1]) (by simp [sB2]) (by rw [sD2]; simp [sS1, mget])
  rw [sD2, sL2'] at h2
  exact h2

theorem sA3 (w : Nat) : (sS2 w).add sL2 sB3 = ((4, 0), sS3 w, sL3) ∧ TL (sS3 w) sL3 ∧ (sS3 w).Ok := by
  obtain ⟨_, h, ho⟩ := sA2 w
  have h2 := TL.add (s := sS2 w) h ho (b := sB3) (q := sB2) (good_nil (by unfold I64; omega) (by unfold I64; omega) (by unfold I64; omega) (by unfold I64; omega)) (by simp [sL2]) (by simp [sS2]) (by simp [sS2, mget, sB3]) (by simp [sB3, sB2]) (by simp [sB3]) (by rw [sD3]; simp [sS2, mget])
  rw [sD3, sL3'] at h2
  exact h2

theorem sV (w : Nat) (d : Int) : -1 ≤ viewOf (mget (sS3 w).T d) ∧ viewOf (mget (sS3 w).T d) ≤ 1000000000 := by
  simp only [sS3, mget]
  split
  · simp [viewOf, zBlk]
  · split
    · simp [viewOf, sB1]
    · split
      · simp [viewOf, sB2]
      · split
        · simp [viewOf, sB3]
        · simp [viewOf]
def k0 (t : Nat) : SS := ⟨t, 0, 1, 1, 0⟩
def k1 (t : Nat) : SS := ⟨t, 1, 2, 1, 0⟩
def k2 (t : Nat) : SS := ⟨t, 2, 3, 2, 0⟩
def k3 (t : Nat) : SS := ⟨t, 3, 4, 3, 0⟩
def k4 (t : Nat) : SS := ⟨t, 3, 4, 3, 3⟩
theorem e1 (w t : Nat) : (k0 t).see (sS3 w) 1 2 = (0, k1 t) := by simp [SS.see, SS.see1, SS.lock2, fixes, parOf, sS3, mget, viewOf, sB1, sB2, sB3, zBlk, k0, k1]
theorem e2 (w t : Nat) : (k1 t).see (sS3 w) 2 3 = (1, k2 t) := by simp [SS.see, SS.see1, SS.lock2, fixes, parOf, sS3, mget, viewOf, sB1, sB2, sB3, zBlk, k1, k2]
theorem e3 (w t : Nat) : (k2 t).see (sS3 w) 3 4 = (2, k3 t) := by simp [SS.see, SS.see1, SS.lock2, fixes, parOf, sS3, mget, viewOf, sB1, sB2, sB3, zBlk, k2, k3]
theorem e4 (w t : Nat) : (k3 t).vote (sS3 w) 4 = (true, k4 t) := by simp [SS.vote, sS3, mget, viewOf, sB1, sB2, sB3, k3, k4]
theorem e5 (w t : Nat) : (k4 t).vote (sS3 w) 4 = (false, k4 t) := by simp [SS.vote, sS3, mget, viewOf, sB1, sB2, sB3, k3, k4]

theorem safe_See' {W : World} {F : List HProp} [Abs F] (p t : Nat) (s : SS) (ht : s.t = t) (st : TS) (hvb : ∀ d, -1 ≤ viewOf (mget st.T d) ∧ viewOf (mget st.T d) ≤ 1000000000) (v b : Int) :
    CallsK W Try.prog 34 #[.pointer (some ⟨p, 0, none⟩), .agg #[.int .i64 v, .int .i64 b, .slice none 0 0]] (At safeI p s :: At treeI t st :: F) (fun u L => u = .int .i64 (s.see st v b).1 ∧ Lands L (At safeI p (s.see st v b).2 :: At treeI t st :: F)) := by
  subst ht; exact safe_See p s st hvb v b
theorem safe_Vote' {W : World} {F : List HProp} [Abs F] (p t : Nat) (s : SS) (ht : s.t = t) (st : TS) (hst : st.Ok) (hlk : ∃ c, mget st.T s.lock = some c) (d : Int) (b : Blk) (h : mget st.T d = some b) (hv : b.view.toNat ≤ 1000000) :
    CallsK W Try.prog 36 #[.pointer (some ⟨p, 0, none⟩), .int .i64 d] (At safeI p s :: At treeI t st :: F) (fun u L => u = .bool (s.vote st d).1 ∧ Lands L (At safeI p (s.vote st d).2 :: At treeI t st :: F)) := by
  subst ht; exact safe_Vote_yes p s st hst hlk d b h hv

theorem safe_awake {W : World} {F : List HProp} [Abs F] :
    CallsK W Try.prog 38 #[] (F) (fun v L => v = .bool true ∧ Lands L F) := by
  refine CallsK_enter (n := 119) Try.func38 rfl rfl rfl ?_
  refine SC_seq ?_
  refine SC_region ?_
  refine SR_pu (RD_assign rfl) rfl ?_
  refine SR_nil ?_
  refine SN.le (l := []) ?_ (.nil)
  refine SN_seq ?_
  refine SC_seq ?_
  refine SC_region ?_
  refine SR_call Try.call7 (.cons rfl (.nil)) (enve_New 1) (lts rfl) ?_
  rintro _ L0 ⟨k, rfl, hL0⟩
  refine SR.lands hL0 ?_
  refine SR_pu (RD_assign rfl) rfl ?_
  refine SR_nil ?_
  refine SN.le (l := [(1, _)]) ?_ (.cons rfl (.nil))
  refine SN_seq ?_
  refine SC_seq ?_
  refine SC_seq ?_
  refine SC_region ?_
  refine SR_pu (RD_move rfl) rfl ?_
  refine SR_pu (RD_eqlP Try.underlying30 rfl rfl) rfl ?_
  refine SR_nil ?_
  refine SN.le (l := [(1, _), (19, _)]) ?_ (.cons rfl (.cons rfl (.nil)))
  refine SN_seq ?_
  refine SC_cond_false rfl (rfl) ?_
  refine SC_skip ?_
  refine SN_seq ?_
  refine SC_seq ?_
  refine SC_region ?_
  refine SR_pu (RD_move rfl) rfl ?_
  refine SR_call Try.call28 (.cons rfl (.nil)) (CallsK.at (tree_New k ⟨[], []⟩ (by simp) [rootB] 1 (by decide +kernel) (by decide +kernel))) (lts rfl) ?_
  rintro _ L1 ⟨q, rfl, hL1⟩
  try dsimp only at hL1
  change Lands L1 (At treeI q (tS0 k.p) :: _) at hL1
  refine SR.lands hL1 ?_
  refine SR_pu (RD_assign rfl) rfl ?_
  refine SR_nil ?_
  refine SN.le (l := [(1, _), (2, _)]) ?_ (.cons rfl (.cons rfl (.nil)))
  refine SN_seq ?_
  refine SC_seq ?_
  refine SC_region ?_
  refine SR_pu (RD_move rfl) rfl ?_
  refine SR_call Try.call29 (.cons rfl (.nil)) (CallsK.at (safe_New q (tS0 k.p))) (lts rfl) ?_
  rintro _ L2 ⟨p, rfl, hL2⟩
  change Lands L2 (At safeI p (k0 q) :: _) at hL2
  refine SR.lands hL2 ?_
  refine SR_pu (RD_assign rfl) rfl ?_
  refine SR_nil ?_
  refine SN.le (l := [(1, _), (2, _), (3, _)]) ?_ (.cons rfl (.cons rfl (.cons rfl (.nil))))
  refine SN_seq ?_
  refine SC_seq ?_
  refine SC_seq ?_
  refine SC_region ?_
  refine SR_pu (RD_move rfl) rfl ?_
  refine SR_pu (RD_eqlP Try.underlying61 rfl rfl) rfl ?_
  refine SR_pu (RD_move rfl) rfl ?_
  refine SR_yes rfl rfl (rfl) ?_
  refine SR_pu (RD_move rfl) rfl ?_
  refine SR_yes rfl rfl (rfl) ?_
  refine SR_pu (RD_eqlP Try.underlying64 rfl rfl) rfl ?_
  refine SR_pu (RD_pick_f rfl (rfl) rfl) rfl ?_
  refine SR_nil ?_
  refine SN.le (l := [(1, _), (2, _), (3, _), (29, _)]) ?_ (.cons rfl (.cons rfl (.cons rfl (.cons rfl (.nil)))))
  refine SN_seq ?_
  refine SC_cond_false rfl (rfl) ?_
  refine SC_skip ?_
  refine SN_seq ?_
  refine SC_seq ?_
  refine SC_region ?_
  refine SR_pu (RD_move rfl) rfl ?_
  refine SR_call Try.call19 (.cons rfl (.nil)) (CallsK.at (cert_Root k ⟨[rootB], []⟩ (by simp) [rootB] 1 (by decide +kernel) (by decide +kernel))) (lts rfl) ?_
  rintro _ L3 ⟨rfl, hL3⟩
  try dsimp only at hL3
  refine SR.lands hL3 ?_
  refine SR_pu (RD_assign rfl) rfl ?_
  refine SR_nil ?_
  refine SN.le (l := [(2, _), (3, _), (4, _)]) ?_ (.cons rfl (.cons rfl (.cons rfl (.nil))))
  refine SN_seq ?_
  refine SC_seq ?_
  refine SC_region ?_
  refine SR_pu (RD_move rfl) rfl ?_
  refine SR_pu (RD_move rfl) rfl ?_
  refine SR_pu (RD_build (.cons rfl (.nil)) built26_1) rfl ?_
  refine SR_pu (RD_build (.cons rfl (.cons rfl (.cons rfl (.nil)))) built58_0_1_2) rfl ?_
  refine SR_call Try.call30 (.cons rfl (.cons rfl (.nil))) (CallsK.at2 (tree_Add' q (tS0 k.p) k rfl ⟨[rootB], []⟩ ⟨1, 1, 0, 1, ⟨none, 0, 0, []⟩, ⟨none, 0, 0, []⟩⟩ rfl rfl (fit_nil _ _ _ _) (by simp [sL1, sL2]) 2 0 (sS1 k.p) sL1 ((sA1 k.p).1))) (lts rfl) ?_
  rintro _ L4 ⟨rfl, hL4⟩
  try dsimp only at hL4
  refine SR.lands hL4 ?_
  refine SR_pu (RD_move rfl) rfl ?_
  refine SR_pu (RD_extract rfl rfl) rfl ?_
  refine SR_pu (RD_extract rfl rfl) rfl ?_
  refine SR_pu (RD_assign rfl) rfl ?_
  refine SR_pu (RD_assign rfl) rfl ?_
  refine SR_nil ?_
  refine SN.le (l := [(2, _), (3, _), (4, _), (5, _)]) ?_ (.cons rfl (.cons rfl (.cons rfl (.cons rfl (.nil)))))
  refine SN_seq ?_
  refine SC_seq ?_
  refine SC_region ?_
  refine SR_pu (RD_move rfl) rfl ?_
  refine SR_pu (RD_move rfl) rfl ?_
  refine SR_pu (RD_build (.cons rfl (.cons rfl (.nil))) built26_0_1) rfl ?_
  refine SR_pu (RD_build (.cons rfl (.cons rfl (.nil))) built58_0_2) rfl ?_
  refine SR_call Try.call30 (.cons rfl (.cons rfl (.nil))) (CallsK.at2 (tree_Add' q (sS1 k.p) k rfl ⟨sL1, []⟩ ⟨2, 0, 1, 2, ⟨none, 0, 0, []⟩, ⟨none, 0, 0, []⟩⟩ rfl rfl (fit_nil _ _ _ _) (by simp [sL1, sL2]) 3 0 (sS2 k.p) sL2 ((sA2 k.p).1))) (lts rfl) ?_
  rintro _ L5 ⟨rfl, hL5⟩
  try dsimp only at hL5
  refine SR.lands hL5 ?_
  refine SR_pu (RD_move rfl) rfl ?_
  refine SR_pu (RD_extract rfl rfl) rfl ?_
  refine SR_pu (RD_extract rfl rfl) rfl ?_
  refine SR_pu (RD_assign rfl) rfl ?_
  refine SR_pu (RD_assign rfl) rfl ?_
  refine SR_nil ?_
  refine SN.le (l := [(2, _), (3, _), (4, _), (5, _), (7, _)]) ?_ (.cons rfl (.cons rfl (.cons rfl (.cons rfl (.cons rfl (.nil))))))
  refine SN_seq ?_
  refine SC_seq ?_
  refine SC_region ?_
  refine SR_pu (RD_move rfl) rfl ?_
  refine SR_pu (RD_move rfl) rfl ?_
  refine SR_pu (RD_build (.cons rfl (.cons rfl (.nil))) built26_0_1) rfl ?_
  refine SR_pu (RD_build (.cons rfl (.cons rfl (.nil))) built58_0_2) rfl ?_
  refine SR_call Try.call30 (.cons rfl (.cons rfl (.nil))) (CallsK.at2 (tree_Add' q (sS2 k.p) k rfl ⟨sL2, []⟩ ⟨3, 0, 2, 3, ⟨none, 0, 0, []⟩, ⟨none, 0, 0, []⟩⟩ rfl rfl (fit_nil _ _ _ _) (by simp [sL1, sL2]) 4 0 (sS3 k.p) sL3 ((sA3 k.p).1))) (lts rfl) ?_
  rintro _ L6 ⟨rfl, hL6⟩
  try dsimp only at hL6
  refine SR.lands hL6 ?_
  refine SR_pu (RD_move rfl) rfl ?_
  refine SR_pu (RD_extract rfl rfl) rfl ?_
  refine SR_pu (RD_extract rfl rfl) rfl ?_
  refine SR_pu (RD_assign rfl) rfl ?_
  refine SR_pu (RD_assign rfl) rfl ?_
  refine SR_nil ?_
  refine SN.le (l := [(3, _), (4, _), (5, _), (7, _), (9, _)]) ?_ (.cons rfl (.cons rfl (.cons rfl (.cons rfl (.cons rfl (.nil))))))
  refine SN_seq ?_
  refine SC_seq ?_
  refine SC_region ?_
  refine SR_pu (RD_move rfl) rfl ?_
  refine SR_pu (RD_move rfl) rfl ?_
  refine SR_pu (RD_build (.cons rfl (.cons rfl (.nil))) built26_0_1) rfl ?_
  refine SR_call Try.call34 (.cons rfl (.cons rfl (.nil))) (CallsK.at2 (safe_See' p q (k0 q) rfl (sS3 k.p) (sV _) 1 2)) (lts rfl) ?_
  rintro _ L7 ⟨rfl, hL7⟩
  rw [e1] at hL7 ⊢
  refine SR.lands (hL7 : Lands L7 (At safeI p (k1 q) :: At treeI q (sS3 k.p) :: _)) ?_
  refine SR_pu (RD_move rfl) rfl ?_
  refine SR_pu (RD_move rfl) rfl ?_
  refine SR_pu (RD_build (.cons rfl (.cons rfl (.nil))) built26_0_1) rfl ?_
  refine SR_call Try.call34 (.cons rfl (.cons rfl (.nil))) (CallsK.at2 (safe_See' p q (k1 q) rfl (sS3 k.p) (sV _) 2 3)) (lts rfl) ?_
  rintro _ L8 ⟨rfl, hL8⟩
  rw [e2] at hL8 ⊢
  refine SR.lands (hL8 : Lands L8 (At safeI p (k2 q) :: At treeI q (sS3 k.p) :: _)) ?_
  refine SR_pu (RD_assign rfl) rfl ?_
  refine SR_pu (RD_assign rfl) rfl ?_
  refine SR_nil ?_
  refine SN.le (l := [(3, _), (4, _), (5, _), (7, _), (9, _), (11, _), (12, _)]) ?_ (.cons rfl (.cons rfl (.cons rfl (.cons rfl (.cons rfl (.cons rfl (.cons rfl (.nil))))))))
  refine SN_seq ?_
  refine SC_seq ?_
  refine SC_region ?_
  refine SR_pu (RD_move rfl) rfl ?_
  refine SR_call Try.call67 (.cons rfl (.nil)) (CallsK.at (safe_Lock p (k2 q))) (lts rfl) ?_
  rintro _ L9 ⟨rfl, hL9⟩
  refine SR.lands hL9 ?_
  refine SR_pu (RD_assign rfl) rfl ?_
  refine SR_nil ?_
  refine SN.le (l := [(3, _), (4, _), (5, _), (7, _), (9, _), (11, _), (12, _), (13, _)]) ?_ (.cons rfl (.cons rfl (.cons rfl (.cons rfl (.cons rfl (.cons rfl (.cons rfl (.cons rfl (.nil)))))))))
  refine SN_seq ?_
  refine SC_seq ?_
  refine SC_region ?_
  refine SR_pu (RD_move rfl) rfl ?_
  refine SR_pu (RD_move rfl) rfl ?_
  refine SR_pu (RD_build (.cons rfl (.cons rfl (.nil))) built26_0_1) rfl ?_
  refine SR_call Try.call34 (.cons rfl (.cons rfl (.nil))) (CallsK.at2 (safe_See' p q (k2 q) rfl (sS3 k.p) (sV _) 3 4)) (lts rfl) ?_
  rintro _ L10 ⟨rfl, hL10⟩
  rw [e3] at hL10 ⊢
  refine SR.lands (hL10 : Lands L10 (At safeI p (k3 q) :: At treeI q (sS3 k.p) :: _)) ?_
  refine SR_pu (RD_assign rfl) rfl ?_
  refine SR_nil ?_
  refine SN.le (l := [(3, _), (4, _), (5, _), (7, _), (9, _), (11, _), (12, _), (13, _), (14, _)]) ?_ (.cons rfl (.cons rfl (.cons rfl (.cons rfl (.cons rfl (.cons rfl (.cons rfl (.cons rfl (.cons rfl (.nil))))))))))
  refine SN_seq ?_
  refine SC_seq ?_
  refine SC_region ?_
  refine SR_pu (RD_move rfl) rfl ?_
  refine SR_pu (RD_move rfl) rfl ?_
  refine SR_call Try.call36 (.cons rfl (.cons rfl (.nil))) (CallsK.at2 (safe_Vote' p q (k3 q) rfl (sS3 k.p) (sA3 _).2.2 ⟨_, rfl⟩ 4 sB3 rfl (by simp [sB3]))) (lts rfl) ?_
  rintro _ L11 ⟨rfl, hL11⟩
  rw [e4] at hL11 ⊢
  refine SR.lands (hL11 : Lands L11 (At safeI p (k4 q) :: At treeI q (sS3 k.p) :: _)) ?_
  refine SR_pu (RD_move rfl) rfl ?_
  refine SR_pu (RD_move rfl) rfl ?_
  refine SR_call Try.call36 (.cons rfl (.cons rfl (.nil))) (CallsK.at2 (safe_Vote' p q (k4 q) rfl (sS3 k.p) (sA3 _).2.2 ⟨_, rfl⟩ 4 sB3 rfl (by simp [sB3]))) (lts rfl) ?_
  rintro _ L12 ⟨rfl, hL12⟩
  rw [e5] at hL12 ⊢
  refine SR.lands (hL12 : Lands L12 (At safeI p (k4 q) :: At treeI q (sS3 k.p) :: _)) ?_
  refine SR_pu (RD_assign rfl) rfl ?_
  refine SR_pu (RD_assign rfl) rfl ?_
  refine SR_nil ?_
  refine SN.le (l := [(3, _), (4, _), (5, _), (7, _), (11, _), (12, _), (13, _), (14, _), (15, _), (16, _)]) ?_ (.cons rfl (.cons rfl (.cons rfl (.cons rfl (.cons rfl (.cons rfl (.cons rfl (.cons rfl (.cons rfl (.cons rfl (.nil)))))))))))
  refine SN_seq ?_
  refine SC_seq ?_
  refine SC_region ?_
  refine SR_pu (RD_move rfl) rfl ?_
  refine SR_call Try.call32 (.cons rfl (.cons rfl (.nil))) (CallsK.at (safe_Skip p (k4 q) 9)) (lts rfl) ?_
  rintro _ L13 ⟨rfl, hL13⟩
  refine SR.lands hL13 ?_
  refine SR_nil ?_
  refine SN.le (l := [(3, _), (4, _), (5, _), (7, _), (11, _), (12, _), (13, _), (14, _), (15, _), (16, _)]) ?_ (.cons rfl (.cons rfl (.cons rfl (.cons rfl (.cons rfl (.cons rfl (.cons rfl (.cons rfl (.cons rfl (.cons rfl (.nil)))))))))))
  refine SN_seq ?_
  refine SC_seq ?_
  refine SC_region ?_
  refine SR_pu (RD_move rfl) rfl ?_
  refine SR_pu (RD_eql rfl rfl) rfl ?_
  refine SR_pu (RD_move rfl) rfl ?_
  refine SR_yes rfl rfl (by first | rfl | exact decide_eq_true (by omega) | exact decide_eq_false (by omega) | decide | (simp; done) | (simp; omega)) ?_
  refine SR_pu (RD_move rfl) rfl ?_
  refine SR_yes rfl rfl (by first | rfl | exact decide_eq_true (by omega) | exact decide_eq_false (by omega) | decide | (simp; done) | (simp; omega)) ?_
  refine SR_pu (RD_move rfl) rfl ?_
  refine SR_yes rfl rfl (by first | rfl | exact decide_eq_true (by omega) | exact decide_eq_false (by omega) | decide | (simp; done) | (simp; omega)) ?_
  refine SR_pu (RD_eql rfl rfl) rfl ?_
  refine SR_pu (RD_pick_t rfl (by first | rfl | exact decide_eq_true (by omega) | exact decide_eq_false (by omega) | decide | (simp; done) | (simp; omega)) rfl) rfl ?_
  refine SR_pu (RD_move rfl) rfl ?_
  refine SR_yes rfl rfl (by first | rfl | exact decide_eq_true (by omega) | exact decide_eq_false (by omega) | decide | (simp; done) | (simp; omega)) ?_
  refine SR_pu (RD_move rfl) rfl ?_
  refine SR_yes rfl rfl (by first | rfl | exact decide_eq_true (by omega) | exact decide_eq_false (by omega) | decide | (simp; done) | (simp; omega)) ?_
  refine SR_pu (RD_move rfl) rfl ?_
  refine SR_yes rfl rfl (by first | rfl | exact decide_eq_true (by omega) | exact decide_eq_false (by omega) | decide | (simp; done) | (simp; omega)) ?_
  refine SR_pu (RD_eql rfl rfl) rfl ?_
  refine SR_pu (RD_pick_t rfl (by first | rfl | exact decide_eq_true (by omega) | exact decide_eq_false (by omega) | decide | (simp; done) | (simp; omega)) rfl) rfl ?_
  refine SR_pu (RD_move rfl) rfl ?_
  refine SR_yes rfl rfl (by first | rfl | exact decide_eq_true (by omega) | exact decide_eq_false (by omega) | decide | (simp; done) | (simp; omega)) ?_
  refine SR_pu (RD_move rfl) rfl ?_
  refine SR_yes rfl rfl (by first | rfl | exact decide_eq_true (by omega) | exact decide_eq_false (by omega) | decide | (simp; done) | (simp; omega)) ?_
  refine SR_pu (RD_move rfl) rfl ?_
  refine SR_yes rfl rfl (by first | rfl | exact decide_eq_true (by omega) | exact decide_eq_false (by omega) | decide | (simp; done) | (simp; omega)) ?_
  refine SR_pu (RD_eql rfl rfl) rfl ?_
  refine SR_pu (RD_pick_t rfl (by first | rfl | exact decide_eq_true (by omega) | exact decide_eq_false (by omega) | decide | (simp; done) | (simp; omega)) rfl) rfl ?_
  refine SR_pu (RD_move rfl) rfl ?_
  refine SR_yes rfl rfl (by first | rfl | exact decide_eq_true (by omega) | exact decide_eq_false (by omega) | decide | (simp; done) | (simp; omega)) ?_
  refine SR_pu (RD_move rfl) rfl ?_
  refine SR_yes rfl rfl (by first | rfl | exact decide_eq_true (by omega) | exact decide_eq_false (by omega) | decide | (simp; done) | (simp; omega)) ?_
  refine SR_call Try.call67 (.cons rfl (.nil)) (CallsK.at (safe_Lock p _)) (lts rfl) ?_
  rintro _ L14 ⟨rfl, hL14⟩
  refine SR.lands hL14 ?_
  refine SR_yes rfl rfl (by first | rfl | exact decide_eq_true (by omega) | exact decide_eq_false (by omega) | decide | (simp; done) | (simp; omega)) ?_
  refine SR_pu (RD_move rfl) rfl ?_
  refine SR_yes rfl rfl (by first | rfl | exact decide_eq_true (by omega) | exact decide_eq_false (by omega) | decide | (simp; done) | (simp; omega)) ?_
  refine SR_pu (RD_eql rfl rfl) rfl ?_
  refine SR_pu (RD_pick_t rfl (by first | rfl | exact decide_eq_true (by omega) | exact decide_eq_false (by omega) | decide | (simp; done) | (simp; omega)) rfl) rfl ?_
  refine SR_pu (RD_move rfl) rfl ?_
  refine SR_yes rfl rfl (by first | rfl | exact decide_eq_true (by omega) | exact decide_eq_false (by omega) | decide | (simp; done) | (simp; omega)) ?_
  refine SR_pu (RD_move rfl) rfl ?_
  refine SR_yes rfl rfl (by first | rfl | exact decide_eq_true (by omega) | exact decide_eq_false (by omega) | decide | (simp; done) | (simp; omega)) ?_
  refine SR_call Try.call68 (.cons rfl (.nil)) (CallsK.at (safe_High p _)) (lts rfl) ?_
  rintro _ L15 ⟨⟨ha, hc, rfl⟩, hL15⟩
  refine SR.lands hL15 ?_
  refine SR_yes rfl rfl (by first | rfl | exact decide_eq_true (by omega) | exact decide_eq_false (by omega) | decide | (simp; done) | (simp; omega)) ?_
  refine SR_pu (RD_field Try.runUnderlying26 rfl Try.isAgg3 rfl rfl) rfl ?_
  refine SR_yes rfl rfl (by first | rfl | exact decide_eq_true (by omega) | exact decide_eq_false (by omega) | decide | (simp; done) | (simp; omega)) ?_
  refine SR_pu (RD_eql rfl rfl) rfl ?_
  refine SR_pu (RD_pick_t rfl (by first | rfl | exact decide_eq_true (by omega) | exact decide_eq_false (by omega) | decide | (simp; done) | (simp; omega)) rfl) rfl ?_
  refine SR_pu (RD_move rfl) rfl ?_
  refine SR_yes rfl rfl (by first | rfl | exact decide_eq_true (by omega) | exact decide_eq_false (by omega) | decide | (simp; done) | (simp; omega)) ?_
  refine SR_pu (RD_move rfl) rfl ?_
  refine SR_pu (RD_pick_t rfl (by first | rfl | exact decide_eq_true (by omega) | exact decide_eq_false (by omega) | decide | (simp; done) | (simp; omega)) rfl) rfl ?_
  refine SR_pu (RD_move rfl) rfl ?_
  refine SR_yes rfl rfl (by first | rfl | exact decide_eq_true (by omega) | exact decide_eq_false (by omega) | decide | (simp; done) | (simp; omega)) ?_
  refine SR_pu (RD_move rfl) rfl ?_
  refine SR_yes rfl rfl (by first | rfl | exact decide_eq_true (by omega) | exact decide_eq_false (by omega) | decide | (simp; done) | (simp; omega)) ?_
  refine SR_pu (RD_not rfl) rfl ?_
  refine SR_pu (RD_pick_t rfl (by first | rfl | exact decide_eq_true (by omega) | exact decide_eq_false (by omega) | decide | (simp; done) | (simp; omega)) rfl) rfl ?_
  refine SR_pu (RD_move rfl) rfl ?_
  refine SR_yes rfl rfl (by first | rfl | exact decide_eq_true (by omega) | exact decide_eq_false (by omega) | decide | (simp; done) | (simp; omega)) ?_
  refine SR_pu (RD_move rfl) rfl ?_
  refine SR_yes rfl rfl (by first | rfl | exact decide_eq_true (by omega) | exact decide_eq_false (by omega) | decide | (simp; done) | (simp; omega)) ?_
  refine SR_call Try.call69 (.cons rfl (.nil)) (CallsK.at (safe_Last p _)) (lts rfl) ?_
  rintro _ L16 ⟨rfl, hL16⟩
  refine SR.lands hL16 ?_
  refine SR_yes rfl rfl (by first | rfl | exact decide_eq_true (by omega) | exact decide_eq_false (by omega) | decide | (simp; done) | (simp; omega)) ?_
  refine SR_pu (RD_eql rfl rfl) rfl ?_
  refine SR_pu (RD_pick_t rfl (by first | rfl | exact decide_eq_true (by omega) | exact decide_eq_false (by omega) | decide | (simp; done) | (simp; omega)) rfl) rfl ?_
  refine SR_pu (RD_assign rfl) rfl ?_
  refine SR_nil ?_
  refine SN.le (l := [(0, _)]) ?_ (.cons rfl (.nil))
  refine SN_seq ?_
  refine SC_ret1 rfl rfl ?_
  exact ⟨rfl, .fin⟩

end Go.Proofs.Ytmigjpmadhebfaa
