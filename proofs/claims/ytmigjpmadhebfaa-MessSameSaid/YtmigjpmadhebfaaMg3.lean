/- Messages: are two the same, as the document says; is one small. -/
import Derived.Test.YtmigjpmadhebfaaMg2
namespace Go.Proofs.Ytmigjpmadhebfaa
open Go Go.Proofs
set_option maxRecDepth 100000
noncomputable instance decPQ : DecidableEq PQ := fun _ _ => Classical.propDecidable _

theorem mess_SameQC {W : World} {F : List HProp} [Abs F] (q r : QcD) (hq : RIn F q.by_) (hr : RIn F r.by_) :
    CallsK W Try.prog 57 #[q.val, r.val] (F) (fun v L => v = .bool (decide (q.view = r.view ∧ q.block = r.block ∧ q.by_.l = r.by_.l)) ∧ Lands L F) := by
  refine CallsK_enter (n := 24) Try.func57 rfl rfl rfl ?_
  haveI := hq.row
  haveI := hr.row
  have q1 := hq.s
  refine SC_seq ?_
  refine SC_region ?_
  refine SR_ox (OX_box rfl rfl) rfl ?_
  rintro _ _ ⟨b2, rfl, rfl⟩
  refine SR_ox (OX_box rfl rfl) rfl ?_
  rintro _ _ ⟨b3, rfl, rfl⟩
  refine SR_pu (RD_assign rfl) rfl ?_
  refine SR_nil ?_
  refine SN.le (l := [(2, _), (3, _)]) ?_ (.cons rfl (.cons rfl (.nil)))
  refine SN_seq ?_
  refine SC_seq ?_
  refine SC_region ?_
  first
    | refine SR_pu (RD_fieldAddr0 Try.runUnderlying26 rfl rfl Try.sizeOf3 rfl) rfl ?_
    | refine SR_rd (RD_fieldAddrO 0 Try.runUnderlying26 rfl rfl Try.sizeOf3 rfl (by simp <;> omega)) Has.ro rfl ?_
  refine SR_rd (RD_load Try.isAgg3 rfl) (Has.ce rfl) rfl ?_
  first
    | refine SR_pu (RD_fieldAddr0 Try.runUnderlying26 rfl rfl Try.sizeOf3 rfl) rfl ?_
    | refine SR_rd (RD_fieldAddrO 0 Try.runUnderlying26 rfl rfl Try.sizeOf3 rfl (by simp <;> omega)) Has.ro rfl ?_
  refine SR_rd (RD_load Try.isAgg3 rfl) (Has.ce rfl) rfl ?_
  refine SR_pu (RD_eql rfl rfl) rfl ?_
  refine SR_pu (RD_move rfl) rfl ?_
  refine SR_guard rfl rfl (fun hg1_5 => ?_) (fun hg1_5 => ?_)
  · refine SR_yes rfl rfl (hg1_5) ?_
    first
      | refine SR_pu (RD_fieldAddr 1 Try.runUnderlying26 rfl rfl Try.sizeOf3 rfl) rfl ?_
      | refine SR_rd (RD_fieldAddrO 1 Try.runUnderlying26 rfl rfl Try.sizeOf3 rfl (by simp <;> omega)) Has.ro rfl ?_
    refine SR_yes rfl rfl (hg1_5) ?_
    refine SR_rd (RD_load Try.isAgg3 rfl) (Has.ce rfl) rfl ?_
    refine SR_yes rfl rfl (hg1_5) ?_
    first
      | refine SR_pu (RD_fieldAddr 1 Try.runUnderlying26 rfl rfl Try.sizeOf3 rfl) rfl ?_
      | refine SR_rd (RD_fieldAddrO 1 Try.runUnderlying26 rfl rfl Try.sizeOf3 rfl (by simp <;> omega)) Has.ro rfl ?_
    refine SR_yes rfl rfl (hg1_5) ?_
    refine SR_rd (RD_load Try.isAgg3 rfl) (Has.ce rfl) rfl ?_
    refine SR_yes rfl rfl (hg1_5) ?_
    refine SR_pu (RD_eql rfl rfl) rfl ?_
    refine SR_pu (RD_pick_t rfl (hg1_5) rfl) rfl ?_
    refine SR_pu (RD_move rfl) rfl ?_
    refine SR_guard rfl rfl (fun hg1_12 => ?_) (fun hg1_12 => ?_)
    · refine SR_yes rfl rfl (hg1_12) ?_
      first
        | refine SR_pu (RD_fieldAddr 2 Try.runUnderlying26 rfl rfl Try.sizeOf24 rfl) rfl ?_
        | refine SR_rd (RD_fieldAddrO 2 Try.runUnderlying26 rfl rfl Try.sizeOf24 rfl (by simp <;> omega)) Has.ro rfl ?_
      refine SR_yes rfl rfl (hg1_12) ?_
      refine SR_rd (RD_load Try.isAgg24 rfl) (Has.ce rfl) rfl ?_
      refine SR_yes rfl rfl (hg1_12) ?_
      first
        | refine SR_pu (RD_fieldAddr 2 Try.runUnderlying26 rfl rfl Try.sizeOf24 rfl) rfl ?_
        | refine SR_rd (RD_fieldAddrO 2 Try.runUnderlying26 rfl rfl Try.sizeOf24 rfl (by simp <;> omega)) Has.ro rfl ?_
      refine SR_yes rfl rfl (hg1_12) ?_
      refine SR_rd (RD_load Try.isAgg24 rfl) (Has.ce rfl) rfl ?_
      refine SR_yes rfl rfl (hg1_12) ?_
      refine SR_call Try.call88 (.cons rfl (.cons rfl (.nil))) (ref_SameInts q.by_.a q.by_.n q.by_.c q.by_.l rfl hq.n r.by_.a r.by_.n r.by_.c r.by_.l rfl hr.n (by omega)) (lts rfl) ?_
      rintro _ L1 ⟨rfl, hL1⟩
      refine SR.lands hL1 ?_
      refine SR_pu (RD_pick_t rfl (hg1_12) rfl) rfl ?_
      refine SR_pu (RD_assign rfl) rfl ?_
      refine SR_nil ?_
      refine SN.le (l := [(4, _)]) ?_ (.cons rfl (.nil))
      refine SN_seq ?_
      refine SC_ret1 rfl rfl ?_
      refine ⟨congrArg Value.bool ?_, .fin⟩
      simp_all
    · refine SR_no rfl rfl (hg1_12) (lts rfl) ?_
      refine SR_no rfl rfl (hg1_12) (lts rfl) ?_
      refine SR_no rfl rfl (hg1_12) (lts rfl) ?_
      refine SR_no rfl rfl (hg1_12) (lts rfl) ?_
      refine SR_no rfl rfl (hg1_12) (lts rfl) ?_
      refine SR_pu (RD_pick_f rfl (hg1_12) rfl) rfl ?_
      refine SR_pu (RD_assign rfl) rfl ?_
      refine SR_nil ?_
      refine SN.le (l := [(4, _)]) ?_ (.cons rfl (.nil))
      refine SN_seq ?_
      refine SC_ret1 rfl rfl ?_
      refine ⟨congrArg Value.bool ?_, .fin⟩
      simp_all
  · refine SR_no rfl rfl (hg1_5) (lts rfl) ?_
    refine SR_no rfl rfl (hg1_5) (lts rfl) ?_
    refine SR_no rfl rfl (hg1_5) (lts rfl) ?_
    refine SR_no rfl rfl (hg1_5) (lts rfl) ?_
    refine SR_no rfl rfl (hg1_5) (lts rfl) ?_
    refine SR_pu (RD_pick_f rfl (hg1_5) rfl) rfl ?_
    refine SR_pu (RD_move rfl) rfl ?_
    refine SR_no rfl rfl (rfl) (lts rfl) ?_
    refine SR_no rfl rfl (rfl) (lts rfl) ?_
    refine SR_no rfl rfl (rfl) (lts rfl) ?_
    refine SR_no rfl rfl (rfl) (lts rfl) ?_
    refine SR_no rfl rfl (rfl) (lts rfl) ?_
    refine SR_pu (RD_pick_f rfl (rfl) rfl) rfl ?_
    refine SR_pu (RD_assign rfl) rfl ?_
    refine SR_nil ?_
    refine SN.le (l := [(4, _)]) ?_ (.cons rfl (.nil))
    refine SN_seq ?_
    refine SC_ret1 rfl rfl ?_
    refine ⟨congrArg Value.bool ?_, .fin⟩
    simp_all

theorem mess_SameTC {W : World} {F : List HProp} [Abs F] (q r : TcD) (hq : RIn F q.by_) (hq2 : RIn F q.highs) (hq3 : RIn F q.high.by_) (hr : RIn F r.by_) (hr2 : RIn F r.highs) (hr3 : RIn F r.high.by_) :
    CallsK W Try.prog 58 #[q.val, r.val] (F) (fun v L => v = .bool (decide (q.view = r.view ∧ q.by_.l = r.by_.l ∧ q.highs.l = r.highs.l ∧ q.high.view = r.high.view ∧ q.high.block = r.high.block ∧ q.high.by_.l = r.high.by_.l)) ∧ Lands L F) := by
  refine CallsK_enter (n := 31) Try.func58 rfl rfl rfl ?_
  haveI := hq.row
  haveI := hr.row
  have q1 := hq.s
  haveI := hq2.row
  haveI := hr2.row
  have q2 := hq2.s
  refine SC_seq ?_
  refine SC_region ?_
  refine SR_ox (OX_box rfl rfl) rfl ?_
  rintro _ _ ⟨b2, rfl, rfl⟩
  refine SR_ox (OX_box rfl rfl) rfl ?_
  rintro _ _ ⟨b3, rfl, rfl⟩
  refine SR_pu (RD_assign rfl) rfl ?_
  refine SR_nil ?_
  refine SN.le (l := [(2, _), (3, _)]) ?_ (.cons rfl (.cons rfl (.nil)))
  refine SN_seq ?_
  refine SC_seq ?_
  refine SC_region ?_
  first
    | refine SR_pu (RD_fieldAddr0 Try.runUnderlying28 rfl rfl Try.sizeOf3 rfl) rfl ?_
    | refine SR_rd (RD_fieldAddrO 0 Try.runUnderlying28 rfl rfl Try.sizeOf3 rfl (by simp <;> omega)) Has.ro rfl ?_
  refine SR_rd (RD_load Try.isAgg3 rfl) (Has.ce rfl) rfl ?_
  first
    | refine SR_pu (RD_fieldAddr0 Try.runUnderlying28 rfl rfl Try.sizeOf3 rfl) rfl ?_
    | refine SR_rd (RD_fieldAddrO 0 Try.runUnderlying28 rfl rfl Try.sizeOf3 rfl (by simp <;> omega)) Has.ro rfl ?_
  refine SR_rd (RD_load Try.isAgg3 rfl) (Has.ce rfl) rfl ?_
  refine SR_pu (RD_eql rfl rfl) rfl ?_
  refine SR_pu (RD_move rfl) rfl ?_
  refine SR_guard rfl rfl (fun hg1_5 => ?_) (fun hg1_5 => ?_)
  · refine SR_yes rfl rfl (hg1_5) ?_
    first
      | refine SR_pu (RD_fieldAddr 1 Try.runUnderlying28 rfl rfl Try.sizeOf24 rfl) rfl ?_
      | refine SR_rd (RD_fieldAddrO 1 Try.runUnderlying28 rfl rfl Try.sizeOf24 rfl (by simp <;> omega)) Has.ro rfl ?_
    refine SR_yes rfl rfl (hg1_5) ?_
    refine SR_rd (RD_load Try.isAgg24 rfl) (Has.ce rfl) rfl ?_
    refine SR_yes rfl rfl (hg1_5) ?_
    first
      | refine SR_pu (RD_fieldAddr 1 Try.runUnderlying28 rfl rfl Try.sizeOf24 rfl) rfl ?_
      | refine SR_rd (RD_fieldAddrO 1 Try.runUnderlying28 rfl rfl Try.sizeOf24 rfl (by simp <;> omega)) Has.ro rfl ?_
    refine SR_yes rfl rfl (hg1_5) ?_
    refine SR_rd (RD_load Try.isAgg24 rfl) (Has.ce rfl) rfl ?_
    refine SR_yes rfl rfl (hg1_5) ?_
    refine SR_call Try.call88 (.cons rfl (.cons rfl (.nil))) (ref_SameInts q.by_.a q.by_.n q.by_.c q.by_.l rfl hq.n r.by_.a r.by_.n r.by_.c r.by_.l rfl hr.n (by omega)) (lts rfl) ?_
    rintro _ L1 ⟨rfl, hL1⟩
    refine SR.lands hL1 ?_
    refine SR_pu (RD_pick_t rfl (hg1_5) rfl) rfl ?_
    refine SR_pu (RD_move rfl) rfl ?_
    refine SR_guard rfl rfl (fun hg1_12 => ?_) (fun hg1_12 => ?_)
    · refine SR_yes rfl rfl (hg1_12) ?_
      first
        | refine SR_pu (RD_fieldAddr 2 Try.runUnderlying28 rfl rfl Try.sizeOf24 rfl) rfl ?_
        | refine SR_rd (RD_fieldAddrO 2 Try.runUnderlying28 rfl rfl Try.sizeOf24 rfl (by simp <;> omega)) Has.ro rfl ?_
      refine SR_yes rfl rfl (hg1_12) ?_
      refine SR_rd (RD_load Try.isAgg24 rfl) (Has.ce rfl) rfl ?_
      refine SR_yes rfl rfl (hg1_12) ?_
      first
        | refine SR_pu (RD_fieldAddr 2 Try.runUnderlying28 rfl rfl Try.sizeOf24 rfl) rfl ?_
        | refine SR_rd (RD_fieldAddrO 2 Try.runUnderlying28 rfl rfl Try.sizeOf24 rfl (by simp <;> omega)) Has.ro rfl ?_
      refine SR_yes rfl rfl (hg1_12) ?_
      refine SR_rd (RD_load Try.isAgg24 rfl) (Has.ce rfl) rfl ?_
      refine SR_yes rfl rfl (hg1_12) ?_
      refine SR_call Try.call88 (.cons rfl (.cons rfl (.nil))) (ref_SameInts q.highs.a q.highs.n q.highs.c q.highs.l rfl hq2.n r.highs.a r.highs.n r.highs.c r.highs.l rfl hr2.n (by omega)) (lts rfl) ?_
      rintro _ L2 ⟨rfl, hL2⟩
      refine SR.lands hL2 ?_
      refine SR_pu (RD_pick_t rfl (hg1_12) rfl) rfl ?_
      refine SR_pu (RD_move rfl) rfl ?_
      refine SR_guard rfl rfl (fun hg1_19 => ?_) (fun hg1_19 => ?_)
      · refine SR_yes rfl rfl (hg1_19) ?_
        first
          | refine SR_pu (RD_fieldAddr 3 Try.runUnderlying28 rfl rfl Try.sizeOf26 rfl) rfl ?_
          | refine SR_rd (RD_fieldAddrO 3 Try.runUnderlying28 rfl rfl Try.sizeOf26 rfl (by simp <;> omega)) Has.ro rfl ?_
        refine SR_yes rfl rfl (hg1_19) ?_
        refine SR_rd (RD_loadA (vs := q.high.cells) Try.isAgg26 Try.sizeOf26 rfl rfl) (Has.ces (cs := q.cells) fun j v h => by rcases j with _ | _ | _ | j <;> simp [QcD.cells, TcD.cells] at h ⊢ <;> exact h) rfl ?_
        refine SR_yes rfl rfl (hg1_19) ?_
        first
          | refine SR_pu (RD_fieldAddr 3 Try.runUnderlying28 rfl rfl Try.sizeOf26 rfl) rfl ?_
          | refine SR_rd (RD_fieldAddrO 3 Try.runUnderlying28 rfl rfl Try.sizeOf26 rfl (by simp <;> omega)) Has.ro rfl ?_
        refine SR_yes rfl rfl (hg1_19) ?_
        refine SR_rd (RD_loadA (vs := r.high.cells) Try.isAgg26 Try.sizeOf26 rfl rfl) (Has.ces (cs := r.cells) fun j v h => by rcases j with _ | _ | _ | j <;> simp [QcD.cells, TcD.cells] at h ⊢ <;> exact h) rfl ?_
        refine SR_yes rfl rfl (hg1_19) ?_
        refine SR_call Try.call57 (.cons rfl (.cons rfl (.nil))) (mess_SameQC q.high r.high (hq3).up.up (hr3).up.up) (lts rfl) ?_
        rintro _ L3 ⟨rfl, hL3⟩
        try dsimp only
        refine SR.lands hL3 ?_
        refine SR_pu (RD_pick_t rfl (hg1_19) rfl) rfl ?_
        refine SR_pu (RD_assign rfl) rfl ?_
        refine SR_nil ?_
        refine SN.le (l := [(4, _)]) ?_ (.cons rfl (.nil))
        refine SN_seq ?_
        refine SC_ret1 rfl rfl ?_
        refine ⟨congrArg Value.bool ?_, .fin⟩
        simp_all
      · refine SR_no rfl rfl (hg1_19) (lts rfl) ?_
        refine SR_no rfl rfl (hg1_19) (lts rfl) ?_
        refine SR_no rfl rfl (hg1_19) (lts rfl) ?_
        refine SR_no rfl rfl (hg1_19) (lts rfl) ?_
        refine SR_no rfl rfl (hg1_19) (lts rfl) ?_
        refine SR_pu (RD_pick_f rfl (hg1_19) rfl) rfl ?_
        refine SR_pu (RD_assign rfl) rfl ?_
        refine SR_nil ?_
        refine SN.le (l := [(4, _)]) ?_ (.cons rfl (.nil))
        refine SN_seq ?_
        refine SC_ret1 rfl rfl ?_
        refine ⟨congrArg Value.bool ?_, .fin⟩
        simp_all
    · refine SR_no rfl rfl (hg1_12) (lts rfl) ?_
      refine SR_no rfl rfl (hg1_12) (lts rfl) ?_
      refine SR_no rfl rfl (hg1_12) (lts rfl) ?_
      refine SR_no rfl rfl (hg1_12) (lts rfl) ?_
      refine SR_no rfl rfl (hg1_12) (lts rfl) ?_
      refine SR_pu (RD_pick_f rfl (hg1_12) rfl) rfl ?_
      refine SR_pu (RD_move rfl) rfl ?_
      refine SR_no rfl rfl (rfl) (lts rfl) ?_
      refine SR_no rfl rfl (rfl) (lts rfl) ?_
      refine SR_no rfl rfl (rfl) (lts rfl) ?_
      refine SR_no rfl rfl (rfl) (lts rfl) ?_
      refine SR_no rfl rfl (rfl) (lts rfl) ?_
      refine SR_pu (RD_pick_f rfl (rfl) rfl) rfl ?_
      refine SR_pu (RD_assign rfl) rfl ?_
      refine SR_nil ?_
      refine SN.le (l := [(4, _)]) ?_ (.cons rfl (.nil))
      refine SN_seq ?_
      refine SC_ret1 rfl rfl ?_
      refine ⟨congrArg Value.bool ?_, .fin⟩
      simp_all
  · refine SR_no rfl rfl (hg1_5) (lts rfl) ?_
    refine SR_no rfl rfl (hg1_5) (lts rfl) ?_
    refine SR_no rfl rfl (hg1_5) (lts rfl) ?_
    refine SR_no rfl rfl (hg1_5) (lts rfl) ?_
    refine SR_no rfl rfl (hg1_5) (lts rfl) ?_
    refine SR_pu (RD_pick_f rfl (hg1_5) rfl) rfl ?_
    refine SR_pu (RD_move rfl) rfl ?_
    refine SR_no rfl rfl (rfl) (lts rfl) ?_
    refine SR_no rfl rfl (rfl) (lts rfl) ?_
    refine SR_no rfl rfl (rfl) (lts rfl) ?_
    refine SR_no rfl rfl (rfl) (lts rfl) ?_
    refine SR_no rfl rfl (rfl) (lts rfl) ?_
    refine SR_pu (RD_pick_f rfl (rfl) rfl) rfl ?_
    refine SR_pu (RD_move rfl) rfl ?_
    refine SR_no rfl rfl (rfl) (lts rfl) ?_
    refine SR_no rfl rfl (rfl) (lts rfl) ?_
    refine SR_no rfl rfl (rfl) (lts rfl) ?_
    refine SR_no rfl rfl (rfl) (lts rfl) ?_
    refine SR_no rfl rfl (rfl) (lts rfl) ?_
    refine SR_pu (RD_pick_f rfl (rfl) rfl) rfl ?_
    refine SR_pu (RD_assign rfl) rfl ?_
    refine SR_nil ?_
    refine SN.le (l := [(4, _)]) ?_ (.cons rfl (.nil))
    refine SN_seq ?_
    refine SC_ret1 rfl rfl ?_
    refine ⟨congrArg Value.bool ?_, .fin⟩
    simp_all

theorem mess_SameBlock {W : World} {F : List HProp} [Abs F] (x y : BlkD) (hx : BIn F x) (hy : BIn F y) :
    CallsK W Try.prog 59 #[x.val, y.val] (F) (fun v L => v = .bool (decide (x.pure = y.pure)) ∧ Lands L F) := by
  refine CallsK_enter (n := 31) Try.func59 rfl rfl rfl ?_
  haveI := hx.r2
  haveI := hy.r2
  have q2 := hx.s
  have hxy : (x.pure = y.pure) ↔ (x.view = y.view ∧ x.author = y.author ∧ x.jv = y.jv ∧ x.jb = y.jb ∧ x.by_.l = y.by_.l ∧ x.envs.l = y.envs.l) := by simp [BlkD.pure]
  refine SC_seq ?_
  refine SC_region ?_
  refine SR_ox (OX_box rfl rfl) rfl ?_
  rintro _ _ ⟨b2, rfl, rfl⟩
  refine SR_ox (OX_box rfl rfl) rfl ?_
  rintro _ _ ⟨b3, rfl, rfl⟩
  refine SR_pu (RD_assign rfl) rfl ?_
  refine SR_nil ?_
  refine SN.le (l := [(2, _), (3, _)]) ?_ (.cons rfl (.cons rfl (.nil)))
  refine SN_seq ?_
  refine SC_seq ?_
  refine SC_region ?_
  first
    | refine SR_pu (RD_fieldAddr0 Try.runUnderlying58 rfl rfl Try.sizeOf3 rfl) rfl ?_
    | refine SR_rd (RD_fieldAddrO 0 Try.runUnderlying58 rfl rfl Try.sizeOf3 rfl (by simp <;> omega)) Has.ro rfl ?_
  refine SR_rd (RD_load Try.isAgg3 rfl) (Has.ce rfl) rfl ?_
  first
    | refine SR_pu (RD_fieldAddr0 Try.runUnderlying58 rfl rfl Try.sizeOf3 rfl) rfl ?_
    | refine SR_rd (RD_fieldAddrO 0 Try.runUnderlying58 rfl rfl Try.sizeOf3 rfl (by simp <;> omega)) Has.ro rfl ?_
  refine SR_rd (RD_load Try.isAgg3 rfl) (Has.ce rfl) rfl ?_
  refine SR_pu (RD_eql rfl rfl) rfl ?_
  refine SR_pu (RD_move rfl) rfl ?_
  refine SR_guard rfl rfl (fun hg1_5 => ?_) (fun hg1_5 => ?_)
  · refine SR_yes rfl rfl (hg1_5) ?_
    first
      | refine SR_pu (RD_fieldAddr 1 Try.runUnderlying58 rfl rfl Try.sizeOf3 rfl) rfl ?_
      | refine SR_rd (RD_fieldAddrO 1 Try.runUnderlying58 rfl rfl Try.sizeOf3 rfl (by simp <;> omega)) Has.ro rfl ?_
    refine SR_yes rfl rfl (hg1_5) ?_
    refine SR_rd (RD_load Try.isAgg3 rfl) (Has.ce rfl) rfl ?_
    refine SR_yes rfl rfl (hg1_5) ?_
    first
      | refine SR_pu (RD_fieldAddr 1 Try.runUnderlying58 rfl rfl Try.sizeOf3 rfl) rfl ?_
      | refine SR_rd (RD_fieldAddrO 1 Try.runUnderlying58 rfl rfl Try.sizeOf3 rfl (by simp <;> omega)) Has.ro rfl ?_
    refine SR_yes rfl rfl (hg1_5) ?_
    refine SR_rd (RD_load Try.isAgg3 rfl) (Has.ce rfl) rfl ?_
    refine SR_yes rfl rfl (hg1_5) ?_
    refine SR_pu (RD_eql rfl rfl) rfl ?_
    refine SR_pu (RD_pick_t rfl (hg1_5) rfl) rfl ?_
    refine SR_pu (RD_move rfl) rfl ?_
    refine SR_guard rfl rfl (fun hg1_12 => ?_) (fun hg1_12 => ?_)
    · refine SR_yes rfl rfl (hg1_12) ?_
      first
        | refine SR_pu (RD_fieldAddr 2 Try.runUnderlying58 rfl rfl Try.sizeOf26 rfl) rfl ?_
        | refine SR_rd (RD_fieldAddrO 2 Try.runUnderlying58 rfl rfl Try.sizeOf26 rfl (by simp <;> omega)) Has.ro rfl ?_
      refine SR_yes rfl rfl (hg1_12) ?_
      refine SR_rd (RD_loadA (vs := QcD.cells ⟨x.jv, x.jb, x.by_⟩) Try.isAgg26 Try.sizeOf26 rfl rfl) (Has.ces (cs := x.cells) fun j v h => by rcases j with _ | _ | _ | j <;> simp [QcD.cells, BlkD.cells] at h ⊢ <;> exact h) rfl ?_
      refine SR_yes rfl rfl (hg1_12) ?_
      first
        | refine SR_pu (RD_fieldAddr 2 Try.runUnderlying58 rfl rfl Try.sizeOf26 rfl) rfl ?_
        | refine SR_rd (RD_fieldAddrO 2 Try.runUnderlying58 rfl rfl Try.sizeOf26 rfl (by simp <;> omega)) Has.ro rfl ?_
      refine SR_yes rfl rfl (hg1_12) ?_
      refine SR_rd (RD_loadA (vs := QcD.cells ⟨y.jv, y.jb, y.by_⟩) Try.isAgg26 Try.sizeOf26 rfl rfl) (Has.ces (cs := y.cells) fun j v h => by rcases j with _ | _ | _ | j <;> simp [QcD.cells, BlkD.cells] at h ⊢ <;> exact h) rfl ?_
      refine SR_yes rfl rfl (hg1_12) ?_
      refine SR_call Try.call57 (.cons rfl (.cons rfl (.nil))) (mess_SameQC ⟨x.jv, x.jb, x.by_⟩ ⟨y.jv, y.jb, y.by_⟩ (hx.r1).up.up (hy.r1).up.up) (lts rfl) ?_
      rintro _ L1 ⟨rfl, hL1⟩
      try dsimp only
      refine SR.lands hL1 ?_
      refine SR_pu (RD_pick_t rfl (hg1_12) rfl) rfl ?_
      refine SR_pu (RD_move rfl) rfl ?_
      refine SR_guard rfl rfl (fun hg1_19 => ?_) (fun hg1_19 => ?_)
      · refine SR_yes rfl rfl (hg1_19) ?_
        first
          | refine SR_pu (RD_fieldAddr 5 Try.runUnderlying58 rfl rfl Try.sizeOf56 rfl) rfl ?_
          | refine SR_rd (RD_fieldAddrO 5 Try.runUnderlying58 rfl rfl Try.sizeOf56 rfl (by simp <;> omega)) Has.ro rfl ?_
        refine SR_yes rfl rfl (hg1_19) ?_
        refine SR_rd (RD_load Try.isAgg56 rfl) (Has.ce rfl) rfl ?_
        refine SR_yes rfl rfl (hg1_19) ?_
        first
          | refine SR_pu (RD_fieldAddr 5 Try.runUnderlying58 rfl rfl Try.sizeOf56 rfl) rfl ?_
          | refine SR_rd (RD_fieldAddrO 5 Try.runUnderlying58 rfl rfl Try.sizeOf56 rfl (by simp <;> omega)) Has.ro rfl ?_
        refine SR_yes rfl rfl (hg1_19) ?_
        refine SR_rd (RD_load Try.isAgg56 rfl) (Has.ce rfl) rfl ?_
        refine SR_yes rfl rfl (hg1_19) ?_
        refine SR_call Try.call89 (.cons rfl (.cons rfl (.nil))) (ref_Same14 x.envs.a x.envs.n x.envs.c x.envs.l rfl hx.n2 y.envs.a y.envs.n y.envs.c y.envs.l rfl hy.n2 (by omega)) (lts rfl) ?_
        rintro _ L2 ⟨rfl, hL2⟩
        refine SR.lands hL2 ?_
        refine SR_pu (RD_pick_t rfl (hg1_19) rfl) rfl ?_
        refine SR_pu (RD_assign rfl) rfl ?_
        refine SR_nil ?_
        refine SN.le (l := [(4, _)]) ?_ (.cons rfl (.nil))
        refine SN_seq ?_
        refine SC_ret1 rfl rfl ?_
        refine ⟨congrArg Value.bool ?_, .fin⟩
        have hd : decide (x.pure = y.pure) = decide (x.view = y.view ∧ x.author = y.author ∧ x.jv = y.jv ∧ x.jb = y.jb ∧ x.by_.l = y.by_.l ∧ x.envs.l = y.envs.l) := decide_eq_decide.2 hxy
        rw [hd]
        clear hd hxy
        simp_all
      · refine SR_no rfl rfl (hg1_19) (lts rfl) ?_
        refine SR_no rfl rfl (hg1_19) (lts rfl) ?_
        refine SR_no rfl rfl (hg1_19) (lts rfl) ?_
        refine SR_no rfl rfl (hg1_19) (lts rfl) ?_
        refine SR_no rfl rfl (hg1_19) (lts rfl) ?_
        refine SR_pu (RD_pick_f rfl (hg1_19) rfl) rfl ?_
        refine SR_pu (RD_assign rfl) rfl ?_
        refine SR_nil ?_
        refine SN.le (l := [(4, _)]) ?_ (.cons rfl (.nil))
        refine SN_seq ?_
        refine SC_ret1 rfl rfl ?_
        refine ⟨congrArg Value.bool ?_, .fin⟩
        have hd : decide (x.pure = y.pure) = decide (x.view = y.view ∧ x.author = y.author ∧ x.jv = y.jv ∧ x.jb = y.jb ∧ x.by_.l = y.by_.l ∧ x.envs.l = y.envs.l) := decide_eq_decide.2 hxy
        rw [hd]
        clear hd hxy
        simp_all
    · refine SR_no rfl rfl (hg1_12) (lts rfl) ?_
      refine SR_no rfl rfl (hg1_12) (lts rfl) ?_
      refine SR_no rfl rfl (hg1_12) (lts rfl) ?_
      refine SR_no rfl rfl (hg1_12) (lts rfl) ?_
      refine SR_no rfl rfl (hg1_12) (lts rfl) ?_
      refine SR_pu (RD_pick_f rfl (hg1_12) rfl) rfl ?_
      refine SR_pu (RD_move rfl) rfl ?_
      refine SR_no rfl rfl (rfl) (lts rfl) ?_
      refine SR_no rfl rfl (rfl) (lts rfl) ?_
      refine SR_no rfl rfl (rfl) (lts rfl) ?_
      refine SR_no rfl rfl (rfl) (lts rfl) ?_
      refine SR_no rfl rfl (rfl) (lts rfl) ?_
      refine SR_pu (RD_pick_f rfl (rfl) rfl) rfl ?_
      refine SR_pu (RD_assign rfl) rfl ?_
      refine SR_nil ?_
      refine SN.le (l := [(4, _)]) ?_ (.cons rfl (.nil))
      refine SN_seq ?_
      refine SC_ret1 rfl rfl ?_
      refine ⟨congrArg Value.bool ?_, .fin⟩
      have hd : decide (x.pure = y.pure) = decide (x.view = y.view ∧ x.author = y.author ∧ x.jv = y.jv ∧ x.jb = y.jb ∧ x.by_.l = y.by_.l ∧ x.envs.l = y.envs.l) := decide_eq_decide.2 hxy
      rw [hd]
      clear hd hxy
      simp_all
  · refine SR_no rfl rfl (hg1_5) (lts rfl) ?_
    refine SR_no rfl rfl (hg1_5) (lts rfl) ?_
    refine SR_no rfl rfl (hg1_5) (lts rfl) ?_
    refine SR_no rfl rfl (hg1_5) (lts rfl) ?_
    refine SR_no rfl rfl (hg1_5) (lts rfl) ?_
    refine SR_pu (RD_pick_f rfl (hg1_5) rfl) rfl ?_
    refine SR_pu (RD_move rfl) rfl ?_
    refine SR_no rfl rfl (rfl) (lts rfl) ?_
    refine SR_no rfl rfl (rfl) (lts rfl) ?_
    refine SR_no rfl rfl (rfl) (lts rfl) ?_
    refine SR_no rfl rfl (rfl) (lts rfl) ?_
    refine SR_no rfl rfl (rfl) (lts rfl) ?_
    refine SR_pu (RD_pick_f rfl (rfl) rfl) rfl ?_
    refine SR_pu (RD_move rfl) rfl ?_
    refine SR_no rfl rfl (rfl) (lts rfl) ?_
    refine SR_no rfl rfl (rfl) (lts rfl) ?_
    refine SR_no rfl rfl (rfl) (lts rfl) ?_
    refine SR_no rfl rfl (rfl) (lts rfl) ?_
    refine SR_no rfl rfl (rfl) (lts rfl) ?_
    refine SR_pu (RD_pick_f rfl (rfl) rfl) rfl ?_
    refine SR_pu (RD_assign rfl) rfl ?_
    refine SR_nil ?_
    refine SN.le (l := [(4, _)]) ?_ (.cons rfl (.nil))
    refine SN_seq ?_
    refine SC_ret1 rfl rfl ?_
    refine ⟨congrArg Value.bool ?_, .fin⟩
    have hd : decide (x.pure = y.pure) = decide (x.view = y.view ∧ x.author = y.author ∧ x.jv = y.jv ∧ x.jb = y.jb ∧ x.by_.l = y.by_.l ∧ x.envs.l = y.envs.l) := decide_eq_decide.2 hxy
    rw [hd]
    clear hd hxy
    simp_all

theorem ref24_Same {W : World} {F : List HProp} [Abs F] (m k : MsgD) [hM : MsgIn F m] [hK : MsgIn F k] :
    CallsK W Try.prog 27 #[m.val, k.val] (F) (fun v L => v = .bool (decide (m.p = k.p)) ∧ Lands L F) := by
  refine CallsK_enter (n := 90) Try.func27 rfl rfl rfl ?_
  haveI := hM.b
  haveI := hK.b
  have nm := hM.n
  have nk := hK.n
  have sm := hM.s
  have sk := hK.s
  refine SC_seq ?_
  refine SC_region ?_
  refine SR_ox (OX_box rfl rfl) rfl ?_
  rintro _ _ ⟨b2, rfl, rfl⟩
  refine SR_ox (OX_box rfl rfl) rfl ?_
  rintro _ _ ⟨b3, rfl, rfl⟩
  refine SR_pu (RD_assign rfl) rfl ?_
  refine SR_nil ?_
  refine SN.le (l := [(2, _), (3, _)]) ?_ (.cons rfl (.cons rfl (.nil)))
  refine SN_seq ?_
  refine SC_seq ?_
  refine SC_seq ?_
  refine SC_region ?_
  first
    | refine SR_pu (RD_fieldAddr0 Try.runUnderlying54 rfl rfl Try.sizeOf3 rfl) rfl ?_
    | refine SR_rd (RD_fieldAddrO 0 Try.runUnderlying54 rfl rfl Try.sizeOf3 rfl (by simp <;> omega)) Has.ro rfl ?_
  refine SR_rd (RD_load Try.isAgg3 rfl) (Has.ce rfl) rfl ?_
  first
    | refine SR_pu (RD_fieldAddr0 Try.runUnderlying54 rfl rfl Try.sizeOf3 rfl) rfl ?_
    | refine SR_rd (RD_fieldAddrO 0 Try.runUnderlying54 rfl rfl Try.sizeOf3 rfl (by simp <;> omega)) Has.ro rfl ?_
  refine SR_rd (RD_load Try.isAgg3 rfl) (Has.ce rfl) rfl ?_
  refine SR_pu (RD_neq rfl rfl) rfl ?_
  refine SR_pu (RD_move rfl) rfl ?_
  refine SR_guard rfl rfl (fun hg1_5 => ?_) (fun hg1_5 => ?_)
  · refine SR_yes rfl rfl (hg1_5) ?_
    first
      | refine SR_pu (RD_fieldAddr 1 Try.runUnderlying54 rfl rfl Try.sizeOf3 rfl) rfl ?_
      | refine SR_rd (RD_fieldAddrO 1 Try.runUnderlying54 rfl rfl Try.sizeOf3 rfl (by simp <;> omega)) Has.ro rfl ?_
    refine SR_yes rfl rfl (hg1_5) ?_
    refine SR_rd (RD_load Try.isAgg3 rfl) (Has.ce rfl) rfl ?_
    refine SR_yes rfl rfl (hg1_5) ?_
    first
      | refine SR_pu (RD_fieldAddr 1 Try.runUnderlying54 rfl rfl Try.sizeOf3 rfl) rfl ?_
      | refine SR_rd (RD_fieldAddrO 1 Try.runUnderlying54 rfl rfl Try.sizeOf3 rfl (by simp <;> omega)) Has.ro rfl ?_
    refine SR_yes rfl rfl (hg1_5) ?_
    refine SR_rd (RD_load Try.isAgg3 rfl) (Has.ce rfl) rfl ?_
    refine SR_yes rfl rfl (hg1_5) ?_
    refine SR_pu (RD_neq rfl rfl) rfl ?_
    refine SR_pu (RD_pick_f rfl (hg1_5) rfl) rfl ?_
    refine SR_pu (RD_move rfl) rfl ?_
    refine SR_guard rfl rfl (fun hg1_12 => ?_) (fun hg1_12 => ?_)
    · refine SR_yes rfl rfl (hg1_12) ?_
      first
        | refine SR_pu (RD_fieldAddr 2 Try.runUnderlying54 rfl rfl Try.sizeOf3 rfl) rfl ?_
        | refine SR_rd (RD_fieldAddrO 2 Try.runUnderlying54 rfl rfl Try.sizeOf3 rfl (by simp <;> omega)) Has.ro rfl ?_
      refine SR_yes rfl rfl (hg1_12) ?_
      refine SR_rd (RD_load Try.isAgg3 rfl) (Has.ce rfl) rfl ?_
      refine SR_yes rfl rfl (hg1_12) ?_
      first
        | refine SR_pu (RD_fieldAddr 2 Try.runUnderlying54 rfl rfl Try.sizeOf3 rfl) rfl ?_
        | refine SR_rd (RD_fieldAddrO 2 Try.runUnderlying54 rfl rfl Try.sizeOf3 rfl (by simp <;> omega)) Has.ro rfl ?_
      refine SR_yes rfl rfl (hg1_12) ?_
      refine SR_rd (RD_load Try.isAgg3 rfl) (Has.ce rfl) rfl ?_
      refine SR_yes rfl rfl (hg1_12) ?_
      refine SR_pu (RD_neq rfl rfl) rfl ?_
      refine SR_pu (RD_pick_f rfl (hg1_12) rfl) rfl ?_
      refine SR_pu (RD_move rfl) rfl ?_
      refine SR_guard rfl rfl (fun hg1_19 => ?_) (fun hg1_19 => ?_)
      · refine SR_yes rfl rfl (hg1_19) ?_
        first
          | refine SR_pu (RD_fieldAddr 3 Try.runUnderlying54 rfl rfl Try.sizeOf3 rfl) rfl ?_
          | refine SR_rd (RD_fieldAddrO 3 Try.runUnderlying54 rfl rfl Try.sizeOf3 rfl (by simp <;> omega)) Has.ro rfl ?_
        refine SR_yes rfl rfl (hg1_19) ?_
        refine SR_rd (RD_load Try.isAgg3 rfl) (Has.ce rfl) rfl ?_
        refine SR_yes rfl rfl (hg1_19) ?_
        first
          | refine SR_pu (RD_fieldAddr 3 Try.runUnderlying54 rfl rfl Try.sizeOf3 rfl) rfl ?_
          | refine SR_rd (RD_fieldAddrO 3 Try.runUnderlying54 rfl rfl Try.sizeOf3 rfl (by simp <;> omega)) Has.ro rfl ?_
        refine SR_yes rfl rfl (hg1_19) ?_
        refine SR_rd (RD_load Try.isAgg3 rfl) (Has.ce rfl) rfl ?_
        refine SR_yes rfl rfl (hg1_19) ?_
        refine SR_pu (RD_neq rfl rfl) rfl ?_
        refine SR_pu (RD_pick_f rfl (hg1_19) rfl) rfl ?_
        refine SR_pu (RD_move rfl) rfl ?_
        refine SR_guard rfl rfl (fun hg1_26 => ?_) (fun hg1_26 => ?_)
        · refine SR_yes rfl rfl (hg1_26) ?_
          first
            | refine SR_pu (RD_fieldAddr 4 Try.runUnderlying54 rfl rfl Try.sizeOf3 rfl) rfl ?_
            | refine SR_rd (RD_fieldAddrO 4 Try.runUnderlying54 rfl rfl Try.sizeOf3 rfl (by simp <;> omega)) Has.ro rfl ?_
          refine SR_yes rfl rfl (hg1_26) ?_
          refine SR_rd (RD_load Try.isAgg3 rfl) (Has.ce rfl) rfl ?_
          refine SR_yes rfl rfl (hg1_26) ?_
          first
            | refine SR_pu (RD_fieldAddr 4 Try.runUnderlying54 rfl rfl Try.sizeOf3 rfl) rfl ?_
            | refine SR_rd (RD_fieldAddrO 4 Try.runUnderlying54 rfl rfl Try.sizeOf3 rfl (by simp <;> omega)) Has.ro rfl ?_
          refine SR_yes rfl rfl (hg1_26) ?_
          refine SR_rd (RD_load Try.isAgg3 rfl) (Has.ce rfl) rfl ?_
          refine SR_yes rfl rfl (hg1_26) ?_
          refine SR_pu (RD_neq rfl rfl) rfl ?_
          refine SR_pu (RD_pick_f rfl (hg1_26) rfl) rfl ?_
          refine SR_pu (RD_move rfl) rfl ?_
          refine SR_guard rfl rfl (fun hg1_33 => ?_) (fun hg1_33 => ?_)
          · refine SR_yes rfl rfl (hg1_33) ?_
            first
              | refine SR_pu (RD_fieldAddr 14 Try.runUnderlying54 rfl rfl Try.sizeOf51 rfl) rfl ?_
              | refine SR_rd (RD_fieldAddrO 14 Try.runUnderlying54 rfl rfl Try.sizeOf51 rfl (by simp <;> omega)) Has.ro rfl ?_
            refine SR_yes rfl rfl (hg1_33) ?_
            refine SR_rd (RD_loadA (vs := m.env.cells) Try.isAgg51 Try.sizeOf51 rfl rfl) (Has.ces (cs := m.cells) fun j v h => by rcases j with _ | _ | _ | _ | _ | _ | j <;> simp [EnvD.cells, MsgD.cells] at h ⊢ <;> exact h) rfl ?_
            refine SR_yes rfl rfl (hg1_33) ?_
            first
              | refine SR_pu (RD_fieldAddr 14 Try.runUnderlying54 rfl rfl Try.sizeOf51 rfl) rfl ?_
              | refine SR_rd (RD_fieldAddrO 14 Try.runUnderlying54 rfl rfl Try.sizeOf51 rfl (by simp <;> omega)) Has.ro rfl ?_
            refine SR_yes rfl rfl (hg1_33) ?_
            refine SR_rd (RD_loadA (vs := k.env.cells) Try.isAgg51 Try.sizeOf51 rfl rfl) (Has.ces (cs := k.cells) fun j v h => by rcases j with _ | _ | _ | _ | _ | _ | j <;> simp [EnvD.cells, MsgD.cells] at h ⊢ <;> exact h) rfl ?_
            refine SR_yes rfl rfl (hg1_33) ?_
            refine SR_pu (RD_neqEnv m.env k.env rfl rfl rfl) rfl ?_
            refine SR_pu (RD_pick_f rfl (hg1_33) rfl) rfl ?_
            refine SR_pu (RD_move rfl) rfl ?_
            refine SR_guard rfl rfl (fun hg1_40 => ?_) (fun hg1_40 => ?_)
            · refine SR_yes rfl rfl (hg1_40) ?_
              first
                | refine SR_pu (RD_fieldAddr 5 Try.runUnderlying54 rfl rfl Try.sizeOf26 rfl) rfl ?_
                | refine SR_rd (RD_fieldAddrO 5 Try.runUnderlying54 rfl rfl Try.sizeOf26 rfl (by simp <;> omega)) Has.ro rfl ?_
              refine SR_yes rfl rfl (hg1_40) ?_
              refine SR_rd (RD_loadA (vs := m.qc.cells) Try.isAgg26 Try.sizeOf26 rfl rfl) (Has.ces (cs := m.cells) fun j v h => by rcases j with _ | _ | _ | _ | _ | _ | j <;> simp [QcD.cells, MsgD.cells] at h ⊢ <;> exact h) rfl ?_
              refine SR_yes rfl rfl (hg1_40) ?_
              first
                | refine SR_pu (RD_fieldAddr 5 Try.runUnderlying54 rfl rfl Try.sizeOf26 rfl) rfl ?_
                | refine SR_rd (RD_fieldAddrO 5 Try.runUnderlying54 rfl rfl Try.sizeOf26 rfl (by simp <;> omega)) Has.ro rfl ?_
              refine SR_yes rfl rfl (hg1_40) ?_
              refine SR_rd (RD_loadA (vs := k.qc.cells) Try.isAgg26 Try.sizeOf26 rfl rfl) (Has.ces (cs := k.cells) fun j v h => by rcases j with _ | _ | _ | _ | _ | _ | j <;> simp [QcD.cells, MsgD.cells] at h ⊢ <;> exact h) rfl ?_
              refine SR_yes rfl rfl (hg1_40) ?_
              refine SR_call Try.call57 (.cons rfl (.cons rfl (.nil))) (mess_SameQC m.qc k.qc (hM.q).up.up (hK.q).up.up) (lts rfl) ?_
              rintro _ L1 ⟨rfl, hL1⟩
              try dsimp only
              refine SR.lands hL1 ?_
              refine SR_yes rfl rfl (hg1_40) ?_
              refine SR_pu (RD_not rfl) rfl ?_
              refine SR_pu (RD_pick_f rfl (hg1_40) rfl) rfl ?_
              refine SR_pu (RD_move rfl) rfl ?_
              refine SR_guard rfl rfl (fun hg1_48 => ?_) (fun hg1_48 => ?_)
              · refine SR_yes rfl rfl (hg1_48) ?_
                first
                  | refine SR_pu (RD_fieldAddr 8 Try.runUnderlying54 rfl rfl Try.sizeOf28 rfl) rfl ?_
                  | refine SR_rd (RD_fieldAddrO 8 Try.runUnderlying54 rfl rfl Try.sizeOf28 rfl (by simp <;> omega)) Has.ro rfl ?_
                refine SR_yes rfl rfl (hg1_48) ?_
                refine SR_rd (RD_loadA (vs := m.tc.cells) Try.isAgg28 Try.sizeOf28 rfl rfl) (Has.ces (cs := m.cells) fun j v h => by rcases j with _ | _ | _ | _ | _ | _ | j <;> simp [TcD.cells, MsgD.cells] at h ⊢ <;> exact h) rfl ?_
                refine SR_yes rfl rfl (hg1_48) ?_
                first
                  | refine SR_pu (RD_fieldAddr 8 Try.runUnderlying54 rfl rfl Try.sizeOf28 rfl) rfl ?_
                  | refine SR_rd (RD_fieldAddrO 8 Try.runUnderlying54 rfl rfl Try.sizeOf28 rfl (by simp <;> omega)) Has.ro rfl ?_
                refine SR_yes rfl rfl (hg1_48) ?_
                refine SR_rd (RD_loadA (vs := k.tc.cells) Try.isAgg28 Try.sizeOf28 rfl rfl) (Has.ces (cs := k.cells) fun j v h => by rcases j with _ | _ | _ | _ | _ | _ | j <;> simp [TcD.cells, MsgD.cells] at h ⊢ <;> exact h) rfl ?_
                refine SR_yes rfl rfl (hg1_48) ?_
                refine SR_call Try.call58 (.cons rfl (.cons rfl (.nil))) (mess_SameTC m.tc k.tc (hM.t).up.up (hM.h).up.up (hM.k).up.up (hK.t).up.up (hK.h).up.up (hK.k).up.up) (lts rfl) ?_
                rintro _ L2 ⟨rfl, hL2⟩
                refine SR.lands hL2 ?_
                refine SR_yes rfl rfl (hg1_48) ?_
                refine SR_pu (RD_not rfl) rfl ?_
                refine SR_pu (RD_pick_f rfl (hg1_48) rfl) rfl ?_
                refine SR_pu (RD_move rfl) rfl ?_
                refine SR_guard rfl rfl (fun hg1_56 => ?_) (fun hg1_56 => ?_)
                · refine SR_yes rfl rfl (hg1_56) ?_
                  first
                    | refine SR_pu (RD_fieldAddr 18 Try.runUnderlying54 rfl rfl Try.sizeOf52 rfl) rfl ?_
                    | refine SR_rd (RD_fieldAddrO 18 Try.runUnderlying54 rfl rfl Try.sizeOf52 rfl (by simp <;> omega)) Has.ro rfl ?_
                  refine SR_yes rfl rfl (hg1_56) ?_
                  refine SR_rd (RD_load Try.isAgg52 rfl) (Has.ce rfl) rfl ?_
                  refine SR_yes rfl rfl (hg1_56) ?_
                  refine SR_pu (RD_len Try.runUnderlying52 rfl) rfl ?_
                  refine SR_yes rfl rfl (hg1_56) ?_
                  first
                    | refine SR_pu (RD_fieldAddr 18 Try.runUnderlying54 rfl rfl Try.sizeOf52 rfl) rfl ?_
                    | refine SR_rd (RD_fieldAddrO 18 Try.runUnderlying54 rfl rfl Try.sizeOf52 rfl (by simp <;> omega)) Has.ro rfl ?_
                  refine SR_yes rfl rfl (hg1_56) ?_
                  refine SR_rd (RD_load Try.isAgg52 rfl) (Has.ce rfl) rfl ?_
                  refine SR_yes rfl rfl (hg1_56) ?_
                  refine SR_pu (RD_len Try.runUnderlying52 rfl) rfl ?_
                  refine SR_yes rfl rfl (hg1_56) ?_
                  refine SR_pu (RD_neq rfl rfl) rfl ?_
                  refine SR_pu (RD_pick_f rfl (hg1_56) rfl) rfl ?_
                  refine SR_nil ?_
                  refine SN.le (l := [(2, _), (3, _), (70, _)]) ?_ (.cons rfl (.cons rfl (.cons rfl (.nil))))
                  refine SN_seq ?_
                  refine SC_cond rfl (fun hc70 => ?_) (fun hc70 => ?_)
                  · have hne : ¬ m.p = k.p := fun e => by
                      have e16 : m.bl.l.map BlkD.pure = k.bl.l.map BlkD.pure := congrArg PMsg.bl e
                      have e17 := congrArg List.length e16
                      rw [List.length_map, List.length_map, nm, nk] at e17
                      simp at hc70; omega
                    refine SC_seq ?_
                    refine SC_region ?_
                    refine SR_pu (RD_assign rfl) rfl ?_
                    refine SR_nil ?_
                    refine SN.le (l := [(4, _)]) ?_ (.cons rfl (.nil))
                    refine SN_seq ?_
                    refine SC_ret1 rfl rfl ?_
                    rw [decide_eq_false hne]
                    exact ⟨rfl, .fin⟩
                  · have hln : m.bl.n = k.bl.n := by simp at hc70; omega
                    have hrest : m.bl.l.map BlkD.pure = k.bl.l.map BlkD.pure → m.p = k.p := fun e => by
                      simp only [MsgD.p, QcD.p, PMsg.mk.injEq, PQ.mk.injEq, List.cons.injEq]
                      simp_all
                    refine SC_skip ?_
                    refine SN_seq ?_
                    refine SC_seq ?_
                    refine SC_seq ?_
                    refine SC_region ?_
                    refine SR_pu (RD_assign rfl) rfl ?_
                    refine SR_nil ?_
                    refine SN.le (l := [(2, _), (3, _), (5, _)]) ?_ (.cons rfl (.cons rfl (.cons rfl (.nil))))
                    refine SN_seq ?_
                    refine SC_block ?_
                    refine SC_ind (X := Nat) (fun i => i ≤ m.bl.n ∧ (m.bl.l.take i).map BlkD.pure = (k.bl.l.take i).map BlkD.pure) (fun i => m.bl.n - i) (fun i => [(2, .pointer (some ⟨b2, 0, none⟩)), (3, .pointer (some ⟨b3, 0, none⟩)), (5, .int .i64 (i : Nat))]) (fun i => pt b2 (.cells m.cells.toArray 54) :: pt b3 (.cells k.cells.toArray 54) :: F) (0) (⟨by omega, by simp⟩) (.cons rfl (.cons rfl (.cons rfl (.nil)))) (.fin) ?_
                    intro i hi ih
                    obtain ⟨hi1, hi2⟩ := hi
                    refine SC_seq ?_
                    refine SC_seq ?_
                    refine SC_region ?_
                    refine SR_pu (RD_move rfl) rfl ?_
                    first
                      | refine SR_pu (RD_fieldAddr 18 Try.runUnderlying54 rfl rfl Try.sizeOf52 rfl) rfl ?_
                      | refine SR_rd (RD_fieldAddrO 18 Try.runUnderlying54 rfl rfl Try.sizeOf52 rfl (by simp <;> omega)) Has.ro rfl ?_
                    refine SR_rd (RD_load Try.isAgg52 rfl) (Has.ce rfl) rfl ?_
                    refine SR_pu (RD_len Try.runUnderlying52 rfl) rfl ?_
                    refine SR_pu (RD_lss rfl rfl) rfl ?_
                    refine SR_nil ?_
                    refine SN.le (l := [(2, _), (3, _), (5, _), (75, _)]) ?_ (.cons rfl (.cons rfl (.cons rfl (.cons rfl (.nil)))))
                    refine SN_seq ?_
                    refine SC_cond rfl (fun hc75 => ?_) (fun hc75 => ?_)
                    · have hin : i < m.bl.n := by simp at hc75; omega
                      obtain ⟨x, hx⟩ : ∃ x, m.bl.l[i]? = some x := ⟨_, List.getElem?_eq_getElem (by omega)⟩
                      obtain ⟨y, hy⟩ : ∃ x, k.bl.l[i]? = some x := ⟨_, List.getElem?_eq_getElem (by omega)⟩
                      have hX := hM.bs x (List.mem_of_getElem? hx)
                      have hY := hK.bs y (List.mem_of_getElem? hy)
                      refine SC_skip ?_
                      refine SN_seq ?_
                      refine SC_seq ?_
                      refine SC_block ?_
                      refine SC_seq ?_
                      refine SC_drawn (.cons 0 true (.cons 1 true (.cons 2 true (.cons 3 true (.cons 4 true (.cons 5 true (.cons 6 true (.cons 7 true (.cons 8 true (.cons 9 true (.cons 10 false (.cons 11 true (.nil))))))))))))) (by kernel_rfl) (by kernel_rfl) ?_
                      first
                        | refine SQ_pu rfl (RD_fieldAddr 18 Try.runUnderlying54 rfl rfl Try.sizeOf52 rfl) rfl ?_
                        | refine SQ_rd rfl (RD_fieldAddrO 18 Try.runUnderlying54 rfl rfl Try.sizeOf52 rfl (by simp <;> omega)) Has.ro rfl ?_
                      refine SQ_rd rfl (RD_load Try.isAgg52 rfl) (Has.ce rfl) rfl ?_
                      refine SQ_pu rfl (RD_move rfl) rfl ?_
                      refine SQ_rd rfl (RD_ixO (cs := m.bl.l.flatMap BlkD.cells) Try.runUnderlying52 Try.sizeOf58 rfl rfl (by rw [blkds_len, nm]) (by omega) (by omega)) Has.ro rfl ?_
                      refine SQ_rd rfl (RD_loadAO (vs := x.cells) (cs := m.bl.l.flatMap BlkD.cells) Try.isAgg58 Try.sizeOf58 rfl rfl (by decide) (fun o v h => by have ho : o < 6 := (List.getElem?_eq_some_iff.1 h).1; rw [show ((i : Nat) : Int).toNat * (5 + 1) + o = i * 6 + o by omega, blkd_get hx o ho]; exact h)) Has.ro rfl ?_
                      first
                        | refine SQ_pu rfl (RD_fieldAddr 18 Try.runUnderlying54 rfl rfl Try.sizeOf52 rfl) rfl ?_
                        | refine SQ_rd rfl (RD_fieldAddrO 18 Try.runUnderlying54 rfl rfl Try.sizeOf52 rfl (by simp <;> omega)) Has.ro rfl ?_
                      refine SQ_rd rfl (RD_load Try.isAgg52 rfl) (Has.ce rfl) rfl ?_
                      refine SQ_pu rfl (RD_move rfl) rfl ?_
                      refine SQ_rd rfl (RD_ixO (cs := k.bl.l.flatMap BlkD.cells) Try.runUnderlying52 Try.sizeOf58 rfl rfl (by rw [blkds_len, nk]) (by omega) (by omega)) Has.ro rfl ?_
                      refine SQ_rd rfl (RD_loadAO (vs := y.cells) (cs := k.bl.l.flatMap BlkD.cells) Try.isAgg58 Try.sizeOf58 rfl rfl (by decide) (fun o v h => by have ho : o < 6 := (List.getElem?_eq_some_iff.1 h).1; rw [show ((i : Nat) : Int).toNat * (5 + 1) + o = i * 6 + o by omega, blkd_get hy o ho]; exact h)) Has.ro rfl ?_
                      refine SQ_call rfl Try.call59 (.cons rfl (.cons rfl (.nil))) (mess_SameBlock x y (hX).up.up (hY).up.up) (lts rfl) ?_
                      rintro _ L3 ⟨rfl, hL3⟩
                      refine ⟨.lands hL3 (.w rfl (.h Has.ro (.h (Has.ce rfl) (.w rfl (.h Has.ro (.h (Has.ce rfl) (.nil))))))), ?_⟩
                      refine SQ.lands hL3 ?_
                      refine SQ_pu rfl (RD_not rfl) rfl ?_
                      refine SQ_nil ?_
                      refine SN.le (l := [(2, _), (3, _), (5, _), (89, _)]) ?_ (.cons rfl (.cons rfl (.cons rfl (.cons rfl (.nil)))))
                      refine SN_seq ?_
                      refine SC_cond rfl (fun hc89 => ?_) (fun hc89 => ?_)
                      · have hne : ¬ m.p = k.p := fun e => by
                          have e16 : m.bl.l.map BlkD.pure = k.bl.l.map BlkD.pure := congrArg PMsg.bl e
                          have e17 := congrArg (fun l => l[i]?) e16
                          simp only [List.getElem?_map, hx, hy, Option.map_some, Option.some.injEq] at e17
                          simp [e17] at hc89
                        refine SC_seq ?_
                        refine SC_region ?_
                        refine SR_pu (RD_assign rfl) rfl ?_
                        refine SR_nil ?_
                        refine SN.le (l := [(4, _)]) ?_ (.cons rfl (.nil))
                        refine SN_seq ?_
                        refine SC_ret1 rfl rfl ?_
                        rw [decide_eq_false hne]
                        exact ⟨rfl, .fin⟩
                      · have hxy : x.pure = y.pure := by simpa using hc89
                        refine SC_skip ?_
                        refine SN_block ?_
                        refine SN_seq ?_
                        refine SC_region ?_
                        refine SR_pu (RD_move rfl) rfl ?_
                        refine SR_pu (RD_addi rfl rfl (by omega) (by omega)) rfl ?_
                        refine SR_pu (RD_assign rfl) rfl ?_
                        refine SR_nil ?_
                        refine SN.le (l := [(2, _), (3, _), (5, _)]) ?_ (.cons rfl (.cons rfl (.cons rfl (.nil))))
                        refine SC_again (ih (i + 1) (⟨by omega, by rw [List.take_add_one, List.take_add_one, hx, hy, List.map_append, List.map_append, hi2]; simp [hxy]⟩) (by omega)) (.fin) (.cons rfl (.cons rfl (.cons' rfl (ie (by omega)) (.nil))))
                    · have hin : i = m.bl.n := by simp at hc75; omega
                      rw [List.take_of_length_le (by omega), List.take_of_length_le (by omega)] at hi2
                      refine SC_exit rfl ?_
                      refine SN_seq ?_
                      refine SC_seq ?_
                      refine SC_region ?_
                      refine SR_pu (RD_assign rfl) rfl ?_
                      refine SR_nil ?_
                      refine SN.le (l := [(4, _)]) ?_ (.cons rfl (.nil))
                      refine SN_seq ?_
                      refine SC_ret1 rfl rfl ?_
                      rw [decide_eq_true (hrest hi2)]
                      exact ⟨rfl, .fin⟩
                · refine SR_no rfl rfl (hg1_56) (lts rfl) ?_
                  refine SR_no rfl rfl (hg1_56) (lts rfl) ?_
                  refine SR_no rfl rfl (hg1_56) (lts rfl) ?_
                  refine SR_no rfl rfl (hg1_56) (lts rfl) ?_
                  refine SR_no rfl rfl (hg1_56) (lts rfl) ?_
                  refine SR_no rfl rfl (hg1_56) (lts rfl) ?_
                  refine SR_no rfl rfl (hg1_56) (lts rfl) ?_
                  refine SR_pu (RD_pick_t rfl (hg1_56) rfl) rfl ?_
                  refine SR_nil ?_
                  refine SN.le (l := [(2, _), (3, _), (70, _)]) ?_ (.cons rfl (.cons rfl (.cons rfl (.nil))))
                  refine SN_seq ?_
                  have hne : ¬ m.p = k.p := fun e => by
                    simp only [MsgD.p, QcD.p, PMsg.mk.injEq, PQ.mk.injEq, List.cons.injEq] at e
                    obtain ⟨⟨e1, e2, e3, e4, e5, _⟩, ⟨e6, e7, e8⟩, e9, e10, e11, ⟨e12, e13, e14⟩, e15, e16⟩ := e
                    simp_all
                  refine SC_cond_true rfl (rfl) ?_
                  refine SC_seq ?_
                  refine SC_region ?_
                  refine SR_pu (RD_assign rfl) rfl ?_
                  refine SR_nil ?_
                  refine SN.le (l := [(4, _)]) ?_ (.cons rfl (.nil))
                  refine SN_seq ?_
                  refine SC_ret1 rfl rfl ?_
                  rw [decide_eq_false hne]
                  exact ⟨rfl, .fin⟩
              · refine SR_no rfl rfl (hg1_48) (lts rfl) ?_
                refine SR_no rfl rfl (hg1_48) (lts rfl) ?_
                refine SR_no rfl rfl (hg1_48) (lts rfl) ?_
                refine SR_no rfl rfl (hg1_48) (lts rfl) ?_
                refine SR_no rfl rfl (hg1_48) (lts rfl) ?_
                refine SR_no rfl rfl (hg1_48) (lts rfl) ?_
                refine SR_pu (RD_pick_t rfl (hg1_48) rfl) rfl ?_
                refine SR_pu (RD_move rfl) rfl ?_
                refine SR_no rfl rfl (rfl) (lts rfl) ?_
                refine SR_no rfl rfl (rfl) (lts rfl) ?_
                refine SR_no rfl rfl (rfl) (lts rfl) ?_
                refine SR_no rfl rfl (rfl) (lts rfl) ?_
                refine SR_no rfl rfl (rfl) (lts rfl) ?_
                refine SR_no rfl rfl (rfl) (lts rfl) ?_
                refine SR_no rfl rfl (rfl) (lts rfl) ?_
                refine SR_pu (RD_pick_t rfl (rfl) rfl) rfl ?_
                refine SR_nil ?_
                refine SN.le (l := [(2, _), (3, _), (70, _)]) ?_ (.cons rfl (.cons rfl (.cons rfl (.nil))))
                refine SN_seq ?_
                have hne : ¬ m.p = k.p := fun e => by
                  simp only [MsgD.p, QcD.p, PMsg.mk.injEq, PQ.mk.injEq, List.cons.injEq] at e
                  obtain ⟨⟨e1, e2, e3, e4, e5, _⟩, ⟨e6, e7, e8⟩, e9, e10, e11, ⟨e12, e13, e14⟩, e15, e16⟩ := e
                  simp_all
                refine SC_cond_true rfl (rfl) ?_
                refine SC_seq ?_
                refine SC_region ?_
                refine SR_pu (RD_assign rfl) rfl ?_
                refine SR_nil ?_
                refine SN.le (l := [(4, _)]) ?_ (.cons rfl (.nil))
                refine SN_seq ?_
                refine SC_ret1 rfl rfl ?_
                rw [decide_eq_false hne]
                exact ⟨rfl, .fin⟩
            · refine SR_no rfl rfl (hg1_40) (lts rfl) ?_
              refine SR_no rfl rfl (hg1_40) (lts rfl) ?_
              refine SR_no rfl rfl (hg1_40) (lts rfl) ?_
              refine SR_no rfl rfl (hg1_40) (lts rfl) ?_
              refine SR_no rfl rfl (hg1_40) (lts rfl) ?_
              refine SR_no rfl rfl (hg1_40) (lts rfl) ?_
              refine SR_pu (RD_pick_t rfl (hg1_40) rfl) rfl ?_
              refine SR_pu (RD_move rfl) rfl ?_
              refine SR_no rfl rfl (rfl) (lts rfl) ?_
              refine SR_no rfl rfl (rfl) (lts rfl) ?_
              refine SR_no rfl rfl (rfl) (lts rfl) ?_
              refine SR_no rfl rfl (rfl) (lts rfl) ?_
              refine SR_no rfl rfl (rfl) (lts rfl) ?_
              refine SR_no rfl rfl (rfl) (lts rfl) ?_
              refine SR_pu (RD_pick_t rfl (rfl) rfl) rfl ?_
              refine SR_pu (RD_move rfl) rfl ?_
              refine SR_no rfl rfl (rfl) (lts rfl) ?_
              refine SR_no rfl rfl (rfl) (lts rfl) ?_
              refine SR_no rfl rfl (rfl) (lts rfl) ?_
              refine SR_no rfl rfl (rfl) (lts rfl) ?_
              refine SR_no rfl rfl (rfl) (lts rfl) ?_
              refine SR_no rfl rfl (rfl) (lts rfl) ?_
              refine SR_no rfl rfl (rfl) (lts rfl) ?_
              refine SR_pu (RD_pick_t rfl (rfl) rfl) rfl ?_
              refine SR_nil ?_
              refine SN.le (l := [(2, _), (3, _), (70, _)]) ?_ (.cons rfl (.cons rfl (.cons rfl (.nil))))
              refine SN_seq ?_
              have hne : ¬ m.p = k.p := fun e => by
                simp only [MsgD.p, QcD.p, PMsg.mk.injEq, PQ.mk.injEq, List.cons.injEq] at e
                obtain ⟨⟨e1, e2, e3, e4, e5, _⟩, ⟨e6, e7, e8⟩, e9, e10, e11, ⟨e12, e13, e14⟩, e15, e16⟩ := e
                simp_all
              refine SC_cond_true rfl (rfl) ?_
              refine SC_seq ?_
              refine SC_region ?_
              refine SR_pu (RD_assign rfl) rfl ?_
              refine SR_nil ?_
              refine SN.le (l := [(4, _)]) ?_ (.cons rfl (.nil))
              refine SN_seq ?_
              refine SC_ret1 rfl rfl ?_
              rw [decide_eq_false hne]
              exact ⟨rfl, .fin⟩
          · refine SR_no rfl rfl (hg1_33) (lts rfl) ?_
            refine SR_no rfl rfl (hg1_33) (lts rfl) ?_
            refine SR_no rfl rfl (hg1_33) (lts rfl) ?_
            refine SR_no rfl rfl (hg1_33) (lts rfl) ?_
            refine SR_no rfl rfl (hg1_33) (lts rfl) ?_
            refine SR_pu (RD_pick_t rfl (hg1_33) rfl) rfl ?_
            refine SR_pu (RD_move rfl) rfl ?_
            refine SR_no rfl rfl (rfl) (lts rfl) ?_
            refine SR_no rfl rfl (rfl) (lts rfl) ?_
            refine SR_no rfl rfl (rfl) (lts rfl) ?_
            refine SR_no rfl rfl (rfl) (lts rfl) ?_
            refine SR_no rfl rfl (rfl) (lts rfl) ?_
            refine SR_no rfl rfl (rfl) (lts rfl) ?_
            refine SR_pu (RD_pick_t rfl (rfl) rfl) rfl ?_
            refine SR_pu (RD_move rfl) rfl ?_
            refine SR_no rfl rfl (rfl) (lts rfl) ?_
            refine SR_no rfl rfl (rfl) (lts rfl) ?_
            refine SR_no rfl rfl (rfl) (lts rfl) ?_
            refine SR_no rfl rfl (rfl) (lts rfl) ?_
            refine SR_no rfl rfl (rfl) (lts rfl) ?_
            refine SR_no rfl rfl (rfl) (lts rfl) ?_
            refine SR_pu (RD_pick_t rfl (rfl) rfl) rfl ?_
            refine SR_pu (RD_move rfl) rfl ?_
            refine SR_no rfl rfl (rfl) (lts rfl) ?_
            refine SR_no rfl rfl (rfl) (lts rfl) ?_
            refine SR_no rfl rfl (rfl) (lts rfl) ?_
            refine SR_no rfl rfl (rfl) (lts rfl) ?_
            refine SR_no rfl rfl (rfl) (lts rfl) ?_
            refine SR_no rfl rfl (rfl) (lts rfl) ?_
            refine SR_no rfl rfl (rfl) (lts rfl) ?_
            refine SR_pu (RD_pick_t rfl (rfl) rfl) rfl ?_
            refine SR_nil ?_
            refine SN.le (l := [(2, _), (3, _), (70, _)]) ?_ (.cons rfl (.cons rfl (.cons rfl (.nil))))
            refine SN_seq ?_
            have hne : ¬ m.p = k.p := fun e => by
              simp only [MsgD.p, QcD.p, PMsg.mk.injEq, PQ.mk.injEq, List.cons.injEq] at e
              obtain ⟨⟨e1, e2, e3, e4, e5, _⟩, ⟨e6, e7, e8⟩, e9, e10, e11, ⟨e12, e13, e14⟩, e15, e16⟩ := e
              simp_all
            refine SC_cond_true rfl (rfl) ?_
            refine SC_seq ?_
            refine SC_region ?_
            refine SR_pu (RD_assign rfl) rfl ?_
            refine SR_nil ?_
            refine SN.le (l := [(4, _)]) ?_ (.cons rfl (.nil))
            refine SN_seq ?_
            refine SC_ret1 rfl rfl ?_
            rw [decide_eq_false hne]
            exact ⟨rfl, .fin⟩
        · refine SR_no rfl rfl (hg1_26) (lts rfl) ?_
          refine SR_no rfl rfl (hg1_26) (lts rfl) ?_
          refine SR_no rfl rfl (hg1_26) (lts rfl) ?_
          refine SR_no rfl rfl (hg1_26) (lts rfl) ?_
          refine SR_no rfl rfl (hg1_26) (lts rfl) ?_
          refine SR_pu (RD_pick_t rfl (hg1_26) rfl) rfl ?_
          refine SR_pu (RD_move rfl) rfl ?_
          refine SR_no rfl rfl (rfl) (lts rfl) ?_
          refine SR_no rfl rfl (rfl) (lts rfl) ?_
          refine SR_no rfl rfl (rfl) (lts rfl) ?_
          refine SR_no rfl rfl (rfl) (lts rfl) ?_
          refine SR_no rfl rfl (rfl) (lts rfl) ?_
          refine SR_pu (RD_pick_t rfl (rfl) rfl) rfl ?_
          refine SR_pu (RD_move rfl) rfl ?_
          refine SR_no rfl rfl (rfl) (lts rfl) ?_
          refine SR_no rfl rfl (rfl) (lts rfl) ?_
          refine SR_no rfl rfl (rfl) (lts rfl) ?_
          refine SR_no rfl rfl (rfl) (lts rfl) ?_
          refine SR_no rfl rfl (rfl) (lts rfl) ?_
          refine SR_no rfl rfl (rfl) (lts rfl) ?_
          refine SR_pu (RD_pick_t rfl (rfl) rfl) rfl ?_
          refine SR_pu (RD_move rfl) rfl ?_
          refine SR_no rfl rfl (rfl) (lts rfl) ?_
          refine SR_no rfl rfl (rfl) (lts rfl) ?_
          refine SR_no rfl rfl (rfl) (lts rfl) ?_
          refine SR_no rfl rfl (rfl) (lts rfl) ?_
          refine SR_no rfl rfl (rfl) (lts rfl) ?_
          refine SR_no rfl rfl (rfl) (lts rfl) ?_
          refine SR_pu (RD_pick_t rfl (rfl) rfl) rfl ?_
          refine SR_pu (RD_move rfl) rfl ?_
          refine SR_no rfl rfl (rfl) (lts rfl) ?_
          refine SR_no rfl rfl (rfl) (lts rfl) ?_
          refine SR_no rfl rfl (rfl) (lts rfl) ?_
          refine SR_no rfl rfl (rfl) (lts rfl) ?_
          refine SR_no rfl rfl (rfl) (lts rfl) ?_
          refine SR_no rfl rfl (rfl) (lts rfl) ?_
          refine SR_no rfl rfl (rfl) (lts rfl) ?_
          refine SR_pu (RD_pick_t rfl (rfl) rfl) rfl ?_
          refine SR_nil ?_
          refine SN.le (l := [(2, _), (3, _), (70, _)]) ?_ (.cons rfl (.cons rfl (.cons rfl (.nil))))
          refine SN_seq ?_
          have hne : ¬ m.p = k.p := fun e => by
            simp only [MsgD.p, QcD.p, PMsg.mk.injEq, PQ.mk.injEq, List.cons.injEq] at e
            obtain ⟨⟨e1, e2, e3, e4, e5, _⟩, ⟨e6, e7, e8⟩, e9, e10, e11, ⟨e12, e13, e14⟩, e15, e16⟩ := e
            simp_all
          refine SC_cond_true rfl (rfl) ?_
          refine SC_seq ?_
          refine SC_region ?_
          refine SR_pu (RD_assign rfl) rfl ?_
          refine SR_nil ?_
          refine SN.le (l := [(4, _)]) ?_ (.cons rfl (.nil))
          refine SN_seq ?_
          refine SC_ret1 rfl rfl ?_
          rw [decide_eq_false hne]
          exact ⟨rfl, .fin⟩
      · refine SR_no rfl rfl (hg1_19) (lts rfl) ?_
        refine SR_no rfl rfl (hg1_19) (lts rfl) ?_
        refine SR_no rfl rfl (hg1_19) (lts rfl) ?_
        refine SR_no rfl rfl (hg1_19) (lts rfl) ?_
        refine SR_no rfl rfl (hg1_19) (lts rfl) ?_
        refine SR_pu (RD_pick_t rfl (hg1_19) rfl) rfl ?_
        refine SR_pu (RD_move rfl) rfl ?_
        refine SR_no rfl rfl (rfl) (lts rfl) ?_
        refine SR_no rfl rfl (rfl) (lts rfl) ?_
        refine SR_no rfl rfl (rfl) (lts rfl) ?_
        refine SR_no rfl rfl (rfl) (lts rfl) ?_
        refine SR_no rfl rfl (rfl) (lts rfl) ?_
        refine SR_pu (RD_pick_t rfl (rfl) rfl) rfl ?_
        refine SR_pu (RD_move rfl) rfl ?_
        refine SR_no rfl rfl (rfl) (lts rfl) ?_
        refine SR_no rfl rfl (rfl) (lts rfl) ?_
        refine SR_no rfl rfl (rfl) (lts rfl) ?_
        refine SR_no rfl rfl (rfl) (lts rfl) ?_
        refine SR_no rfl rfl (rfl) (lts rfl) ?_
        refine SR_pu (RD_pick_t rfl (rfl) rfl) rfl ?_
        refine SR_pu (RD_move rfl) rfl ?_
        refine SR_no rfl rfl (rfl) (lts rfl) ?_
        refine SR_no rfl rfl (rfl) (lts rfl) ?_
        refine SR_no rfl rfl (rfl) (lts rfl) ?_
        refine SR_no rfl rfl (rfl) (lts rfl) ?_
        refine SR_no rfl rfl (rfl) (lts rfl) ?_
        refine SR_no rfl rfl (rfl) (lts rfl) ?_
        refine SR_pu (RD_pick_t rfl (rfl) rfl) rfl ?_
        refine SR_pu (RD_move rfl) rfl ?_
        refine SR_no rfl rfl (rfl) (lts rfl) ?_
        refine SR_no rfl rfl (rfl) (lts rfl) ?_
        refine SR_no rfl rfl (rfl) (lts rfl) ?_
        refine SR_no rfl rfl (rfl) (lts rfl) ?_
        refine SR_no rfl rfl (rfl) (lts rfl) ?_
        refine SR_no rfl rfl (rfl) (lts rfl) ?_
        refine SR_pu (RD_pick_t rfl (rfl) rfl) rfl ?_
        refine SR_pu (RD_move rfl) rfl ?_
        refine SR_no rfl rfl (rfl) (lts rfl) ?_
        refine SR_no rfl rfl (rfl) (lts rfl) ?_
        refine SR_no rfl rfl (rfl) (lts rfl) ?_
        refine SR_no rfl rfl (rfl) (lts rfl) ?_
        refine SR_no rfl rfl (rfl) (lts rfl) ?_
        refine SR_no rfl rfl (rfl) (lts rfl) ?_
        refine SR_no rfl rfl (rfl) (lts rfl) ?_
        refine SR_pu (RD_pick_t rfl (rfl) rfl) rfl ?_
        refine SR_nil ?_
        refine SN.le (l := [(2, _), (3, _), (70, _)]) ?_ (.cons rfl (.cons rfl (.cons rfl (.nil))))
        refine SN_seq ?_
        have hne : ¬ m.p = k.p := fun e => by
          simp only [MsgD.p, QcD.p, PMsg.mk.injEq, PQ.mk.injEq, List.cons.injEq] at e
          obtain ⟨⟨e1, e2, e3, e4, e5, _⟩, ⟨e6, e7, e8⟩, e9, e10, e11, ⟨e12, e13, e14⟩, e15, e16⟩ := e
          simp_all
        refine SC_cond_true rfl (rfl) ?_
        refine SC_seq ?_
        refine SC_region ?_
        refine SR_pu (RD_assign rfl) rfl ?_
        refine SR_nil ?_
        refine SN.le (l := [(4, _)]) ?_ (.cons rfl (.nil))
        refine SN_seq ?_
        refine SC_ret1 rfl rfl ?_
        rw [decide_eq_false hne]
        exact ⟨rfl, .fin⟩
    · refine SR_no rfl rfl (hg1_12) (lts rfl) ?_
      refine SR_no rfl rfl (hg1_12) (lts rfl) ?_
      refine SR_no rfl rfl (hg1_12) (lts rfl) ?_
      refine SR_no rfl rfl (hg1_12) (lts rfl) ?_
      refine SR_no rfl rfl (hg1_12) (lts rfl) ?_
      refine SR_pu (RD_pick_t rfl (hg1_12) rfl) rfl ?_
      refine SR_pu (RD_move rfl) rfl ?_
      refine SR_no rfl rfl (rfl) (lts rfl) ?_
      refine SR_no rfl rfl (rfl) (lts rfl) ?_
      refine SR_no rfl rfl (rfl) (lts rfl) ?_
      refine SR_no rfl rfl (rfl) (lts rfl) ?_
      refine SR_no rfl rfl (rfl) (lts rfl) ?_
      refine SR_pu (RD_pick_t rfl (rfl) rfl) rfl ?_
      refine SR_pu (RD_move rfl) rfl ?_
      refine SR_no rfl rfl (rfl) (lts rfl) ?_
      refine SR_no rfl rfl (rfl) (lts rfl) ?_
      refine SR_no rfl rfl (rfl) (lts rfl) ?_
      refine SR_no rfl rfl (rfl) (lts rfl) ?_
      refine SR_no rfl rfl (rfl) (lts rfl) ?_
      refine SR_pu (RD_pick_t rfl (rfl) rfl) rfl ?_
      refine SR_pu (RD_move rfl) rfl ?_
      refine SR_no rfl rfl (rfl) (lts rfl) ?_
      refine SR_no rfl rfl (rfl) (lts rfl) ?_
      refine SR_no rfl rfl (rfl) (lts rfl) ?_
      refine SR_no rfl rfl (rfl) (lts rfl) ?_
      refine SR_no rfl rfl (rfl) (lts rfl) ?_
      refine SR_pu (RD_pick_t rfl (rfl) rfl) rfl ?_
      refine SR_pu (RD_move rfl) rfl ?_
      refine SR_no rfl rfl (rfl) (lts rfl) ?_
      refine SR_no rfl rfl (rfl) (lts rfl) ?_
      refine SR_no rfl rfl (rfl) (lts rfl) ?_
      refine SR_no rfl rfl (rfl) (lts rfl) ?_
      refine SR_no rfl rfl (rfl) (lts rfl) ?_
      refine SR_no rfl rfl (rfl) (lts rfl) ?_
      refine SR_pu (RD_pick_t rfl (rfl) rfl) rfl ?_
      refine SR_pu (RD_move rfl) rfl ?_
      refine SR_no rfl rfl (rfl) (lts rfl) ?_
      refine SR_no rfl rfl (rfl) (lts rfl) ?_
      refine SR_no rfl rfl (rfl) (lts rfl) ?_
      refine SR_no rfl rfl (rfl) (lts rfl) ?_
      refine SR_no rfl rfl (rfl) (lts rfl) ?_
      refine SR_no rfl rfl (rfl) (lts rfl) ?_
      refine SR_pu (RD_pick_t rfl (rfl) rfl) rfl ?_
      refine SR_pu (RD_move rfl) rfl ?_
      refine SR_no rfl rfl (rfl) (lts rfl) ?_
      refine SR_no rfl rfl (rfl) (lts rfl) ?_
      refine SR_no rfl rfl (rfl) (lts rfl) ?_
      refine SR_no rfl rfl (rfl) (lts rfl) ?_
      refine SR_no rfl rfl (rfl) (lts rfl) ?_
      refine SR_no rfl rfl (rfl) (lts rfl) ?_
      refine SR_no rfl rfl (rfl) (lts rfl) ?_
      refine SR_pu (RD_pick_t rfl (rfl) rfl) rfl ?_
      refine SR_nil ?_
      refine SN.le (l := [(2, _), (3, _), (70, _)]) ?_ (.cons rfl (.cons rfl (.cons rfl (.nil))))
      refine SN_seq ?_
      have hne : ¬ m.p = k.p := fun e => by
        simp only [MsgD.p, QcD.p, PMsg.mk.injEq, PQ.mk.injEq, List.cons.injEq] at e
        obtain ⟨⟨e1, e2, e3, e4, e5, _⟩, ⟨e6, e7, e8⟩, e9, e10, e11, ⟨e12, e13, e14⟩, e15, e16⟩ := e
        simp_all
      refine SC_cond_true rfl (rfl) ?_
      refine SC_seq ?_
      refine SC_region ?_
      refine SR_pu (RD_assign rfl) rfl ?_
      refine SR_nil ?_
      refine SN.le (l := [(4, _)]) ?_ (.cons rfl (.nil))
      refine SN_seq ?_
      refine SC_ret1 rfl rfl ?_
      rw [decide_eq_false hne]
      exact ⟨rfl, .fin⟩
  · refine SR_no rfl rfl (hg1_5) (lts rfl) ?_
    refine SR_no rfl rfl (hg1_5) (lts rfl) ?_
    refine SR_no rfl rfl (hg1_5) (lts rfl) ?_
    refine SR_no rfl rfl (hg1_5) (lts rfl) ?_
    refine SR_no rfl rfl (hg1_5) (lts rfl) ?_
    refine SR_pu (RD_pick_t rfl (hg1_5) rfl) rfl ?_
    refine SR_pu (RD_move rfl) rfl ?_
    refine SR_no rfl rfl (rfl) (lts rfl) ?_
    refine SR_no rfl rfl (rfl) (lts rfl) ?_
    refine SR_no rfl rfl (rfl) (lts rfl) ?_
    refine SR_no rfl rfl (rfl) (lts rfl) ?_
    refine SR_no rfl rfl (rfl) (lts rfl) ?_
    refine SR_pu (RD_pick_t rfl (rfl) rfl) rfl ?_
    refine SR_pu (RD_move rfl) rfl ?_
    refine SR_no rfl rfl (rfl) (lts rfl) ?_
    refine SR_no rfl rfl (rfl) (lts rfl) ?_
    refine SR_no rfl rfl (rfl) (lts rfl) ?_
    refine SR_no rfl rfl (rfl) (lts rfl) ?_
    refine SR_no rfl rfl (rfl) (lts rfl) ?_
    refine SR_pu (RD_pick_t rfl (rfl) rfl) rfl ?_
    refine SR_pu (RD_move rfl) rfl ?_
    refine SR_no rfl rfl (rfl) (lts rfl) ?_
    refine SR_no rfl rfl (rfl) (lts rfl) ?_
    refine SR_no rfl rfl (rfl) (lts rfl) ?_
    refine SR_no rfl rfl (rfl) (lts rfl) ?_
    refine SR_no rfl rfl (rfl) (lts rfl) ?_
    refine SR_pu (RD_pick_t rfl (rfl) rfl) rfl ?_
    refine SR_pu (RD_move rfl) rfl ?_
    refine SR_no rfl rfl (rfl) (lts rfl) ?_
    refine SR_no rfl rfl (rfl) (lts rfl) ?_
    refine SR_no rfl rfl (rfl) (lts rfl) ?_
    refine SR_no rfl rfl (rfl) (lts rfl) ?_
    refine SR_no rfl rfl (rfl) (lts rfl) ?_
    refine SR_pu (RD_pick_t rfl (rfl) rfl) rfl ?_
    refine SR_pu (RD_move rfl) rfl ?_
    refine SR_no rfl rfl (rfl) (lts rfl) ?_
    refine SR_no rfl rfl (rfl) (lts rfl) ?_
    refine SR_no rfl rfl (rfl) (lts rfl) ?_
    refine SR_no rfl rfl (rfl) (lts rfl) ?_
    refine SR_no rfl rfl (rfl) (lts rfl) ?_
    refine SR_no rfl rfl (rfl) (lts rfl) ?_
    refine SR_pu (RD_pick_t rfl (rfl) rfl) rfl ?_
    refine SR_pu (RD_move rfl) rfl ?_
    refine SR_no rfl rfl (rfl) (lts rfl) ?_
    refine SR_no rfl rfl (rfl) (lts rfl) ?_
    refine SR_no rfl rfl (rfl) (lts rfl) ?_
    refine SR_no rfl rfl (rfl) (lts rfl) ?_
    refine SR_no rfl rfl (rfl) (lts rfl) ?_
    refine SR_no rfl rfl (rfl) (lts rfl) ?_
    refine SR_pu (RD_pick_t rfl (rfl) rfl) rfl ?_
    refine SR_pu (RD_move rfl) rfl ?_
    refine SR_no rfl rfl (rfl) (lts rfl) ?_
    refine SR_no rfl rfl (rfl) (lts rfl) ?_
    refine SR_no rfl rfl (rfl) (lts rfl) ?_
    refine SR_no rfl rfl (rfl) (lts rfl) ?_
    refine SR_no rfl rfl (rfl) (lts rfl) ?_
    refine SR_no rfl rfl (rfl) (lts rfl) ?_
    refine SR_no rfl rfl (rfl) (lts rfl) ?_
    refine SR_pu (RD_pick_t rfl (rfl) rfl) rfl ?_
    refine SR_nil ?_
    refine SN.le (l := [(2, _), (3, _), (70, _)]) ?_ (.cons rfl (.cons rfl (.cons rfl (.nil))))
    refine SN_seq ?_
    have hne : ¬ m.p = k.p := fun e => by
      simp only [MsgD.p, QcD.p, PMsg.mk.injEq, PQ.mk.injEq, List.cons.injEq] at e
      obtain ⟨⟨e1, e2, e3, e4, e5, _⟩, ⟨e6, e7, e8⟩, e9, e10, e11, ⟨e12, e13, e14⟩, e15, e16⟩ := e
      simp_all
    refine SC_cond_true rfl (rfl) ?_
    refine SC_seq ?_
    refine SC_region ?_
    refine SR_pu (RD_assign rfl) rfl ?_
    refine SR_nil ?_
    refine SN.le (l := [(4, _)]) ?_ (.cons rfl (.nil))
    refine SN_seq ?_
    refine SC_ret1 rfl rfl ?_
    rw [decide_eq_false hne]
    exact ⟨rfl, .fin⟩

end Go.Proofs.Ytmigjpmadhebfaa
